import PyProof.Rows.All
import Wide.All
import OpenK.AllK
import Wide.FinOn
import HandS.ForMost
import HandS.ForExc
import HandS.ExcInit
import HandS.TupMul
import HandS.TupAny
import HandS.Zip
import HandS.Style
import HandS.Conv
import HandS.IsInst
import HandS.Wide
import HandS.Defaults
import HandS.Flow
import HandS.Deep
import KE.KStateDown
import HandS.TupSets
import HandS.Small
import HandS.RaiseMore
import KE.GoesEnum
import KE.GoesMore
import KE.GoesZip
import HandS.ExcIs
import HandS.HeadEnd
import HandS.OwnEq
import PyProof.InstNe
import HandS.Head0
import HandS.Head1
import HandS.Head2
import HandS.HeadHook1
import HandS.HeadHook2
import HandS.HeadHook3
import HandS.HeadHook4
import KE.KExcIs
import HandS.Ends
import HandS.SetFor
import HandS.Strs
import KE.KRevSl
import HandS.TryOnly
import HandS.TupLe
import PyProof.ListNew
import HandS.Keys
import HandS.ExcValue
import PySem.Challenge.RW_oncetwice_k00_errors_of_the_package
set_option Elab.async false
set_option linter.all false
set_option maxRecDepth 100000
set_option maxHeartbeats 0
/-! RI1: values, stores, the small language, its evaluator (plain Lean, no heap). -/
namespace RI
open PySem (Str)

/-- data that never change -/
inductive D where
  | non | bl (b : Bool) | int (i : Int) | str (s : List Nat)
  | tup (xs : List D) | lst (xs : List D) | dic (kvs : List (D × D)) | obj (c : Nat) (fs : List (Nat × D)) | fn (f : Nat)
  deriving Inhabited

/-- what a name holds: data, a cell of the store, the script, a caught error -/
inductive W where
  | d (x : D) | loc (l : Nat) | scr (ns : List Int) | exn (c : Nat) (fs : List (Nat × D))
  deriving Inhabited

inductive Cell where
  | lst (xs : List D) | lsw (ws : List W) | dct (kvs : List (D × D)) | dtt (kvs : List (List Int × D)) | ins (c : Nat) (fs : List (Nat × W)) | dead
  deriving Inhabited

abbrev Store := List Cell
abbrev Env := List (Option W)

inductive Res (α : Type) where
  | ok (a : α) (S : Store) | exc (c : Nat) (fs : List (Nat × D)) (S : Store) | stk

def Res.bind {α β : Type} (r : Res α) (f : α → Store → Res β) : Res β :=
  match r with
  | .ok a S => f a S
  | .exc c fs S => .exc c fs S
  | .stk => .stk

@[simp] theorem Res.bind_ok {α β : Type} (a : α) (S : Store) (f : α → Store → Res β) : (Res.ok a S).bind f = f a S := id rfl
@[simp] theorem Res.bind_exc {α β : Type} (c : Nat) (fs : List (Nat × D)) (S : Store) (f : α → Store → Res β) : (Res.exc c fs S).bind f = .exc c fs S := id rfl
@[simp] theorem Res.bind_stk {α β : Type} (f : α → Store → Res β) : (Res.stk : Res α).bind f = .stk := id rfl

def ofO {α : Type} (o : Option α) (S : Store) : Res α :=
  match o with
  | some a => .ok a S
  | none => .stk
@[simp] theorem ofO_some {α : Type} (a : α) (S : Store) : ofO (some a) S = .ok a S := rfl
@[simp] theorem ofO_none {α : Type} (S : Store) : ofO (none : Option α) S = .stk := rfl

/-! ### data equal -/
mutual
def toPD : D → Option PySem.PyData
  | .non => some .none
  | .bl b => some (.bool b)
  | .int i => some (.int i)
  | .str s => some (.str ⟨s.toArray⟩)
  | .tup xs => (toPDs xs).map .tuple
  | .lst xs => (toPDs xs).map .list
  | _ => none
def toPDs : List D → Option (List PySem.PyData)
  | [] => some []
  | x :: xs => match toPD x, toPDs xs with
    | some p, some ps => some (p :: ps)
    | _, _ => none
end

/-- == of data -/
def pyEq (a b : D) : Option Bool :=
  match toPD a, toPD b with
  | some p, some q => if PySem.SeqAt.shaped p && PySem.SeqAt.shaped q then some (PySem.PyData.eqv p q) else none
  | _, _ => none

/-! ### cells to data -/
def wsD : List (Nat × W) → Option (List (Nat × D))
  | [] => some []
  | (f, .d x) :: r => (wsD r).map ((f, x) :: ·)
  | _ => none
def cellD : Cell → Option D
  | .lst xs => some (.lst xs)
  | .dct kvs => some (.dic kvs)
  | .ins c fs => (wsD fs).map (.obj c)
  | _ => none
/-- what a name holds becomes data; its cell can't be written any more -/
def toD (w : W) (S : Store) : Res D :=
  match w with
  | .d x => .ok x S
  | .loc l => match S[l]?.bind cellD with
    | some x => .ok x (S.set l .dead)
    | none => .stk
  | _ => .stk
def toDs : List W → Store → Res (List D)
  | [], S => .ok [] S
  | w :: ws, S => (toD w S).bind fun x S1 => (toDs ws S1).bind fun xs S2 => .ok (x :: xs) S2
@[simp] theorem toD_d (x : D) (S : Store) : toD (.d x) S = .ok x S := rfl
@[simp] theorem toDs_nil (S : Store) : toDs [] S = .ok [] S := rfl
@[simp] theorem toDs_d (x : D) (ws : List W) (S : Store) : toDs (.d x :: ws) S = (toDs ws S).bind fun xs S2 => .ok (x :: xs) S2 := rfl

def wBelow (n : Nat) : W → Bool
  | .loc l => decide (l < n)
  | _ => true
def cellBelow (n : Nat) : Cell → Bool
  | .lsw ws => ws.all (wBelow n)
  | .ins _ fs => fs.all fun p => wBelow n p.2
  | _ => true
def belows (n : Nat) (S : Store) : Bool := S.all (cellBelow n)

/-! ### the language -/
inductive BOp where | add | sub | mul | fdiv | mod | pow
  deriving DecidableEq
inductive COp where | eq | ne | lt | le | gt | ge | inn | nin
  deriving DecidableEq
inductive Ty where | none | bool | int | str | tuple | list | dict | cls (c : Nat) | valueError
  deriving DecidableEq
inductive BI where | abs | all | any | int | len | list | str | sum | tuple | min | repr | sorted
  deriving DecidableEq
inductive BM where | append | extend | pop | count | index | get | join | split | tcount
  deriving DecidableEq

/-- what is asked of a set that is let go at once: its size, its items ascending -/
inductive SO where | len | sort
  deriving DecidableEq

mutual
inductive IE where
  | var (i : Nat) | glob (k : Nat) | fnv (f : Nat)
  | non | bl (b : Bool) | int (i : Int) | str (s : List Nat)
  | tup (es : IEs) | lst (es : IEs) | dic0
  | bin (o : BOp) (a b : IE) | neg (a : IE) | not (a : IE)
  | cmp (o : COp) (a b : IE) | cmpd (o : COp) (a b : IE) | chain (o o' : COp) (a b c : IE) | isn (neg : Bool) (a : IE) | isb (b : Bool) (a : IE)
  | and (es : IEs) | or (es : IEs)
  | ifx (c a b : IE)
  | call (f : Nat) (es : IEs) | callv (i : Nat) (es : IEs) | callx (a : IE) (es : IEs) | meth (e : IE) (m : Nat) (es : IEs) | mk (c : Nat) (es : IEs)
  | bi (b : BI) (es : IEs) | bm (e : IE) (m : BM) (es : IEs)
  | fld (e : IE) (f : Nat)
  | ix (a b : IE) | sl (a : IE) (lo hi : IO)
  | lc (e : IE) (own : List Nat) (t : IT) (it : II) (ifs : IO)
  | isi (e : IE) (ts : List Ty)
  | thaw (e : IE)
  | rep (a : IE) | lrng (a : IE) | isx (e : IE) (t : Ty) | flx (e : IE) (f : Nat)
  | dix (a b : IE) | din (neg : Bool) (b a : IE) | dget (a b c : IE) | dkeys (a : IE) | dlen (a : IE) | dnew
  | srt (a : IE) | rev (a : IE) | kget (k : Nat) (a d : IE) | kin (k : Nat) (neg : Bool) (a : IE) | kix (k : Nat) (a : IE) | dpr (a : IE)
  | lsw (es : IEs) | lzip (a b : IE) | tix (a b : IE) | tin (neg : Bool) (b a : IE) | tnew | dic1 (k v : IE) | setop (o : SO) (a : IE) | mkx (c : Nat) (es : IEs) | fle (e : IE) (f : Nat) | ise (e : IE) (t : Ty) | lc2 (e : IE) (own : List Nat) (t : IT) (it : II) (t2 : IT) (it2 : II)
inductive IEs where
  | nil | cons (e : IE) (es : IEs)
inductive IO where
  | no | yes (e : IE)
inductive II where
  | seq (e : IE) | rng (a : IE) | rng2 (a b : IE) | rngd (a b : IE) | enum (e : IE) | zip (a b : IE)
inductive IT where
  | nm (i : Nat) | tup (ts : ITs) | sub (o i : IE) | fld (o : IE) (f : Nat) | dsub (o i : IE) | tsub (o i : IE)
inductive ITs where
  | nil | cons (t : IT) (ts : ITs)
end

mutual
inductive IS where
  | expr (e : IE) | ret (e : IE) | retN | pass | brk | cont
  | asg (t : IT) (e : IE)
  | par (is : List Nat) (es : IEs)
  | aug (i : Nat) (o : BOp) (e : IE)
  | ife (c : IE) (a b : ISs) | for_ (t : IT) (it : II) (b : ISs) | whl (c : IE) (b : ISs)
  | raise (c : Nat) (es : IEs) | tryx (body : IB) (c : Nat) (i : Nat) (suite : ISs) | tryo (body : IB) (c : Nat) (suite : ISs)
inductive ISs where
  | nil | cons (s : IS) (ss : ISs)
/-- a try's body: what may raise comes first -/
inductive IB where
  | one (s : IS) (rest : ISs) | ifb (c : IE) (a b : IB) (rest : ISs)
end

structure FnD where
  name : Str
  N : List Str
  np : Nat
  body : ISs
  keep : Bool
  top : Bool := true
structure ClD where
  name : Str
  init : Option Nat
  meths : List (Nat × Nat)
  frozen : Bool
  sups : List Nat
  exc : Option (List Nat)
  xin : Option Nat := none
structure Prog where
  fns : List FnD
  cls : List ClD
  consts : List D
  cnm : List Str := []
  flds : List Nat := []
  tabs : List (List (List Nat × D)) := []
  tnm : List Str := []

/-- where an expression is run -/
structure Ctx where
  call : Nat → List W → Store → Res W
  P : Prog
  fu : Nat

/-! ### operations on what is held -/
inductive SK where | tup | lst
  deriving DecidableEq
def seqOf (w : W) (S : Store) : Option (SK × List D) :=
  match w with
  | .d (.tup xs) => some (.tup, xs)
  | .d (.lst xs) => some (.lst, xs)
  | .scr ns => some (.lst, ns.map D.int)
  | .loc l => match S[l]? with
    | some (.lst xs) => some (.lst, xs)
    | _ => none
  | _ => none
/-- a list that is no script -/
def lstOf (w : W) (S : Store) : Option (List D) :=
  match w with
  | .d (.lst xs) => some xs
  | .loc l => match S[l]? with
    | some (.lst xs) => some xs
    | _ => none
  | _ => none

def line : Nat := 16777216
def bitsOk (i j : Int) : Bool := decide (i.natAbs.log2 + j.natAbs.log2 < 1000000)
def rep {α : Type} (k : Int) (xs : List α) : List α := (List.replicate k.toNat xs).flatten

def addD (a b : W) (S : Store) : Option D :=
  match a, b with
  | .d (.int i), .d (.int j) => some (.int (i + j))
  | .d (.str s), .d (.str t) => if s.length + t.length ≤ line then some (.str (s ++ t)) else none
  | .d (.tup s), .d (.tup t) => if s.length + t.length ≤ line then some (.tup (s ++ t)) else none
  | x, y => match lstOf x S, lstOf y S with
    | some s, some t => if s.length + t.length ≤ line then some (.lst (s ++ t)) else none
    | _, _ => none
def subD (a b : W) (_ : Store) : Option D :=
  match a, b with
  | .d (.int i), .d (.int j) => some (.int (i - j))
  | _, _ => none
def mulD (a b : W) (S : Store) : Option D :=
  match a, b with
  | .d (.int i), .d (.int j) => if bitsOk i j then some (.int (i * j)) else none
  | .d (.tup s), .d (.int k) => if -(2 ^ 63) ≤ k ∧ k ≤ 1000 ∧ s.length ≤ 1000 then some (.tup (rep k s)) else none
  | x, .d (.int k) => match lstOf x S with
    | some s => if s.length * k.toNat ≤ line ∧ -(2 ^ 63) ≤ k ∧ k < 2 ^ 63 then some (.lst (rep k s)) else none
    | none => none
  | _, _ => none
def fdivD (a b : W) (_ : Store) : Option D :=
  match a, b with
  | .d (.int i), .d (.int j) => if (0 < j ∧ j.natAbs.log2 < 9000) ∨ (j ≠ 0 ∧ (j.natAbs.log2 < 9000 ∨ i.natAbs.log2 < 13500)) then some (.int (i.fdiv j)) else none
  | _, _ => none
def modD (a b : W) (_ : Store) : Option D :=
  match a, b with
  | .d (.int i), .d (.int j) => if j ≠ 0 then some (.int (i.fmod j)) else none
  | _, _ => none
def powD (a b : W) (_ : Store) : Option D :=
  match a, b with
  | .d (.int i), .d (.int j) => if 0 ≤ j ∧ j ≤ 1000000 ∧ i.natAbs < 2 ^ 64 then some (.int (i ^ j.toNat)) else none
  | _, _ => none
def binD : BOp → W → W → Store → Option D
  | .add => addD | .sub => subD | .mul => mulD | .fdiv => fdivD | .mod => modD | .pow => powD

/-- flat data -/
def flatD : D → Bool
  | .non => true
  | .bl _ => true
  | .int _ => true
  | .str _ => true
  | _ => false
/-- == of flat data -/
def eqF : D → D → Bool
  | .non, .non => true
  | .bl a, .bl b => a == b
  | .bl a, .int b => (if a then 1 else 0) == b
  | .int a, .bl b => a == (if b then 1 else 0)
  | .int a, .int b => a == b
  | .str a, .str b => a == b
  | _, _ => false
/-- x in a sequence -/
def pyIn (k : SK) (x : D) (ys : List D) : Option Bool :=
  if flatD x && ys.all flatD then some (ys.any fun y => eqF y x) else
    match toPD x, toPDs ys with
    | some p, some ps => if PySem.SeqAt.shaped p ∧ PySem.SeqAt.shaped (.list ps) then some (ps.any fun z => PySem.PyData.eqv z p) else none
    | _, _ => none
def intC (p : Int → Int → Bool) (a b : W) (_ : Store) : Option Bool :=
  match a, b with
  | .d (.int i), .d (.int j) => some (p i j)
  | _, _ => none
def eqD (a b : W) (S : Store) : Option Bool :=
  match a, b with
  | .d (.str s), .d (.str t) => some (decide (s = t))
  | .d x, .d y => pyEq x y
  | x, y => match lstOf x S, lstOf y S with
    | some s, some t => pyEq (.lst s) (.lst t)
    | _, _ => none
def inD (a b : W) (S : Store) : Option Bool :=
  match a, b with
  | .d (.str [c]), .d (.str y) => some (decide (c ∈ y))
  | .d x, y => match seqOf y S with
    | some (k, ys) => pyIn k x ys
    | none => none
  | _, _ => none
def cmpD : COp → W → W → Store → Option Bool
  | .lt => intC fun i j => decide (i < j)
  | .le => intC fun i j => decide (i ≤ j)
  | .gt => intC fun i j => decide (j < i)
  | .ge => intC fun i j => decide (j ≤ i)
  | .eq => eqD
  | .ne => fun a b S => (eqD a b S).map (!·)
  | .inn => inD
  | .nin => fun a b S => (inD a b S).map (!·)

def truthy (w : W) (S : Store) : Option Bool :=
  match w with
  | .d .non => some false
  | .d (.bl b) => some b
  | .d (.int i) => some (i != 0)
  | .d (.str s) => if s.length ≤ line then some (!s.isEmpty) else none
  | .d (.obj _ _) => none
  | .d (.fn _) => none
  | .d (.dic _) => none
  | w => (seqOf w S).map fun p => !p.2.isEmpty

/-- the place of an index of any sign -/
def ixOf (n : Nat) (i : Int) : Option Nat := L2.ixN n i

def ixD (a b : W) (S : Store) : Option W :=
  match b with
  | .d (.int i) => match a with
    | .d (.str s) => if s.length ≤ line then (L2.atI s i).map fun c => .d (.str [c]) else none
    | .loc l => match S[l]? with
      | some (.lst xs) => (L2.atI xs i).map .d
      | some (.lsw ws) => L2.atI ws i
      | _ => none
    | a => match seqOf a S with
      | some (_, xs) => (L2.atI xs i).map .d
      | none => none
  | _ => none

def cut {α : Type} (xs : List α) (lo hi : Option Int) : List α := (xs.drop (_root_.HT.sIx xs.length 0 lo)).take (_root_.HT.sIx xs.length xs.length hi - _root_.HT.sIx xs.length 0 lo)

def slD (a : W) (lo hi : Option Int) (S : Store) : Option D :=
  match a with
  | .d (.str s) => if s.length ≤ line then some (.str (cut s lo hi)) else none
  | a => match seqOf a S with
    | some (.tup, xs) => some (.tup (cut xs lo hi))
    | some (.lst, xs) => some (.lst (cut xs lo hi))
    | none => none

def tyName (w : W) (S : Store) : Option Ty :=
  match w with
  | .d .non => some .none
  | .d (.bl _) => some .bool
  | .d (.int _) => some .int
  | .d (.str _) => some .str
  | .d (.tup _) => some .tuple
  | .d (.lst _) => some .list
  | .d (.dic _) => some .dict
  | .d (.obj c _) => some (.cls c)
  | .loc l => match S[l]? with
    | some (.lst _) => some .list
    | some (.lsw _) => some .list
    | some (.dct _) => some .dict
    | some (.ins c _) => some (.cls c)
    | _ => none
  | .scr _ => some .list
  | .exn c _ => some (.cls c)
  | _ => none
/-- is of the class -/
def tyIs (P : Prog) (t u : Ty) : Bool :=
  match t, u with
  | .bool, .int => true
  | .cls c, .cls e => match P.cls[c]? with
    | some k => k.sups.contains e
    | none => false
  | .cls c, .valueError => match P.cls[c]? with
    | some k => k.exc.isSome
    | none => false
  | t, u => decide (t = u)

def decI (i : Int) : List Nat := (Str.ofString (toString i)).cps.toList

def digitsOk : List Nat → Bool
  | [] => true
  | c :: cs => decide (48 ≤ c) && decide (c ≤ 57) && digitsOk cs
def decVal (cs : List Nat) : Nat := cs.foldl (fun acc c => acc * 10 + (c - 48)) 0

def allB : List D → Option Bool
  | [] => some true
  | .bl b :: r => (allB r).map (b && ·)
  | _ => none
def anyB : List D → Option Bool
  | [] => some false
  | .bl b :: r => (anyB r).map (b || ·)
  | _ => none
def intsOf : List D → Option (List Int)
  | [] => some []
  | .int i :: r => (intsOf r).map (i :: ·)
  | _ => none
def strsOf : List D → Option (List (List Nat))
  | [] => some []
  | .str i :: r => (strsOf r).map (i :: ·)
  | _ => none

/-- lists put behind one another -/
def lstsOf : List D → Option (List D)
  | [] => some []
  | .lst ys :: r => (lstsOf r).map (ys ++ ·)
  | _ => none
def biD (b : BI) (ws : List W) (S : Store) : Option D :=
  match b, ws with
  | .abs, [.d (.int i)] => some (.int (if i < 0 then -i else i))
  | .int, [.d (.int i)] => some (.int i)
  | .int, [.d (.bl k)] => some (.int (if k then 1 else 0))
  | .int, [.d (.str s)] => if s ≠ [] ∧ s.length ≤ 640 ∧ digitsOk s then some (.int (decVal s)) else none
  | .str, [.d (.int i)] => if i.natAbs.log2 < 1920 then some (.str (decI i)) else none
  | .str, [.d (.str s)] => some (.str s)
  | .len, [.d (.str s)] => if s.length ≤ line then some (.int s.length) else none
  | .len, [w] => (seqOf w S).map fun p => .int p.2.length
  | .list, [w] => (seqOf w S).map fun p => .lst p.2
  | .tuple, [w] => (seqOf w S).map fun p => .tup p.2
  | .all, [w] => (lstOf w S).bind fun xs => (allB xs).map .bl
  | .any, [w] => (lstOf w S).bind fun xs => (anyB xs).map .bl
  | .sum, [w] => match seqOf w S with
    | some (.lst, xs) => (intsOf xs).map fun ns => .int ns.sum
    | _ => none
  | .sum, [w, .d (.lst [])] => match seqOf w S with
    | some (.lst, xs) => (lstsOf xs).bind fun zs => if zs.length ≤ line then some (.lst zs) else none
    | _ => none
  | .min, [.d (.int i), .d (.int j)] => some (.int (if j < i then j else i))
  | _, _ => none

/-! ### dicts: keys are numbers or texts -/
def keyD : D → Option L2.Key
  | .int i => some (.inl i)
  | .str s => some (.inr ⟨s.toArray⟩)
  | _ => none
def keq (a b : D) : Bool := match a, b with
  | .int i, .int j => decide (i = j)
  | .str s, .str t => decide (s = t)
  | _, _ => false
def dlook (kvs : List (D × D)) (k : D) : Option D := (kvs.find? fun p => keq p.1 k).map (·.2)
def dput (kvs : List (D × D)) (k x : D) : List (D × D) := if (kvs.any fun p => keq p.1 k) = true then kvs.map (fun p => if keq p.1 k = true then (p.1, x) else p) else kvs ++ [(k, x)]
/-- a dict of pairs -/
def dofP : List (D × D) → List D → Option (List (D × D))
  | acc, [] => some acc
  | acc, .tup [k, x] :: r => if (keyD k).isSome = true then dofP (dput acc k x) r else none
  | _, _ => none
/-- rising, as often as it is there -/
def insI (i : Int) : List Int → List Int
  | [] => [i]
  | j :: r => if i ≤ j then i :: j :: r else j :: insI i r
def sortI (ns : List Int) : List Int := ns.foldr insI []
/-- a written dict with texts as keys, looked up -/
def tabD (T : List (List Nat × D)) (s : List Nat) : Option D := (T.find? fun p => decide (p.1 = s)).map (·.2)
/-- a dict -/
def dicOf (w : W) (S : Store) : Option (List (D × D)) := match w with
  | .d (.dic kvs) => some kvs
  | .loc l => match S[l]? with
    | some (.dct kvs) => some kvs
    | _ => none
  | _ => none
/-- a dict looked up -/
def dgetD (w k : W) (S : Store) : Option (Option D) := match k with
  | .d k => if (keyD k).isSome then (dicOf w S).map fun kvs => dlook kvs k else none
  | _ => none
/-- a key that is a tuple of ints -/
def keysI : D → Option (List Int)
  | .tup xs => intsOf xs
  | _ => none
def tlook (kvs : List (List Int × D)) (ks : List Int) : Option D := (kvs.find? fun p => decide (p.1 = ks)).map (·.2)
def tput (kvs : List (List Int × D)) (ks : List Int) (x : D) : List (List Int × D) := if (tlook kvs ks).isSome = true then kvs.map (fun p => if p.1 = ks then (p.1, x) else p) else kvs ++ [(ks, x)]
/-- a dict with such keys -/
def ticOf (w : W) (S : Store) : Option (List (List Int × D)) := match w with
  | .loc l => match S[l]? with
    | some (.dtt kvs) => some kvs
    | _ => none
  | _ => none
def tgetD (w k : W) (S : Store) : Option (Option D) := match k with
  | .d k => (keysI k).bind fun ks => (ticOf w S).map fun kvs => tlook kvs ks
  | _ => none
def joinL (sep : List Nat) : List (List Nat) → List Nat
  | [] => []
  | [x] => x
  | x :: y :: r => x ++ sep ++ joinL sep (y :: r)
/-- cut at each sign that is c -/
def splitL (c : Nat) : List Nat → List (List Nat)
  | [] => [[]]
  | x :: xs => if x = c then [] :: splitL c xs else match splitL c xs with
    | [] => [[x]]
    | p :: ps => (x :: p) :: ps

def isLoc (l : Nat) : W → Bool
  | .loc m => l == m
  | _ => false
/-- methods of built-in types -/
def bmD (m : BM) (o : W) (ws : List W) (S : Store) : Res W :=
  match m, o, ws with
  | .append, .loc l, [w] => match S[l]? with
    | some (.lst xs) => (toD w S).bind fun x S1 => match S1[l]? with
      | some (.lst xs) => if xs.length < line then .ok (.d .non) (S1.set l (.lst (xs ++ [x]))) else .stk
      | _ => .stk
    | _ => .stk
  | .extend, .loc l, [w] => match S[l]?, lstOf w S with
    | some (.lst xs), some zs => if xs.length + zs.length ≤ line ∧ isLoc l w = false then .ok (.d .non) (S.set l (.lst (xs ++ zs))) else .stk
    | _, _ => .stk
  | .pop, .loc l, [.d (.int i)] => match S[l]? with
    | some (.lst xs) => match L2.ixN xs.length i with
      | some k => match xs[k]? with
        | some x => .ok (.d x) (S.set l (.lst (xs.eraseIdx k)))
        | none => .stk
      | none => .stk
    | _ => .stk
  | .count, w, [.d x] => match lstOf w S with
    | some xs => if flatD x && xs.all flatD then .ok (.d (.int (xs.countP (eqF · x)))) S else .stk
    | none => .stk
  | .index, w, [.d x] => match lstOf w S with
    | some xs => if flatD x && xs.all flatD && xs.any (eqF · x) && decide (xs.length ≤ line) then .ok (.d (.int (xs.findIdx (eqF · x)))) S else .stk
    | none => .stk
  | .tcount, .d (.tup xs), [.d x] => if flatD x && xs.all flatD then .ok (.d (.int (xs.countP (eqF · x)))) S else .stk
  | .join, .d (.str s), [w] => match (seqOf w S).bind fun p => strsOf p.2 with
    | some ts => if (ts.map List.length).sum + ts.length * s.length ≤ 16777216 then .ok (.d (.str (joinL s ts))) S else .stk
    | none => .stk
  | .split, .d (.str s), [.d (.str [c])] => if s.length + 2 ≤ line ∧ c < 256 then .ok (.d (.lst ((splitL c s).map .str))) S else .stk
  | _, _, _ => .stk

end RI
/-! RI2: the evaluator. -/
namespace RI
open PySem (Str)

inductive Src where
  | fix (xs : List D) | loc (l : Nat) (n : Nat)

/-- how a statement ends -/
inductive Flow where
  | nx (η : Env) | ret (w : W) | brk (η : Env) | cont (η : Env)

def noExc {α : Type} : Res α → Res α
  | .exc _ _ _ => .stk
  | r => r
@[simp] theorem noExc_ok {α : Type} (a : α) (S : Store) : noExc (.ok a S) = .ok a S := rfl
@[simp] theorem noExc_stk {α : Type} : noExc (.stk : Res α) = .stk := rfl

/-! ### loops -/
section
variable (set : W → Env → Store → Res Env) (tst : Env → Store → Res Bool) (elt : Env → Store → Res W)
/-- one turn of a comprehension -/
def lcTurn (η : Env) (x : D) (acc : List D) (S : Store) : Res (List D) :=
  (set (.d x) η S).bind fun η1 S1 => (tst η1 S1).bind fun b S2 =>
    if b = true then (elt η1 S2).bind fun w S3 => (toD w S3).bind fun y S4 => if acc.length < line then .ok (acc ++ [y]) S4 else .stk else .ok acc S2
def lcFix (η : Env) : List D → List D → Store → Res (List D)
  | [], acc, S => .ok acc S
  | x :: xs, acc, S => (lcTurn set tst elt η x acc S).bind fun acc1 S1 => lcFix η xs acc1 S1
def lcLoc (η : Env) (l : Nat) : Nat → Nat → List D → Store → Res (List D)
  | 0, i, acc, S => match S[l]? with
    | some (.lst ys) => if ys.length ≤ i then .ok acc S else .stk
    | _ => .stk
  | n + 1, i, acc, S => match S[l]? with
    | some (.lst ys) => match ys[i]? with
      | some x => (lcTurn set tst elt η x acc S).bind fun acc1 S1 => lcLoc η l n (i + 1) acc1 S1
      | none => .stk
    | _ => .stk
def lcSrc (η : Env) (src : Src) (S : Store) : Res (List D) :=
  match src with
  | .fix xs => lcFix set tst elt η xs [] S
  | .loc l n => lcLoc set tst elt η l n 0 [] S
end

/-! two fors: each turn of the outer one is a run of the inner one -/
section
variable (set : W → Env → Store → Res Env) (it2 : Env → Store → Res Src) (set2 : W → Env → Store → Res Env) (elt : Env → Store → Res W)
def lcIn (η : Env) (x : D) (acc : List D) (S : Store) : Res (List D) :=
  (set (.d x) η S).bind fun η1 S1 => (it2 η1 S1).bind fun src S2 => match src with
    | .fix ys => lcFix set2 (fun _ S => .ok true S) elt η1 ys acc S2
    | .loc _ _ => .stk
def lcFix2 (η : Env) : List D → List D → Store → Res (List D)
  | [], acc, S => .ok acc S
  | x :: xs, acc, S => (lcIn set it2 set2 elt η x acc S).bind fun acc1 S1 => lcFix2 η xs acc1 S1
def lcSrc2 (η : Env) (src : Src) (S : Store) : Res (List D) :=
  match src with
  | .fix xs => lcFix2 set it2 set2 elt η xs [] S
  | .loc _ _ => .stk
end

section
variable (set : W → Env → Store → Res Env) (body : Env → Store → Res Flow)
def forFix : List D → Env → Store → Res Flow
  | [], η, S => .ok (.nx η) S
  | x :: xs, η, S => (noExc (set (.d x) η S)).bind fun η1 S1 => (body η1 S1).bind fun f S2 => match f with
    | .nx η2 => forFix xs η2 S2
    | .cont η2 => forFix xs η2 S2
    | .brk η2 => .ok (.nx η2) S2
    | .ret w => .ok (.ret w) S2
def forLoc (l : Nat) : Nat → Nat → Env → Store → Res Flow
  | 0, i, η, S => match S[l]? with
    | some (.lst ys) => if ys.length ≤ i then .ok (.nx η) S else .stk
    | _ => .stk
  | n + 1, i, η, S => match S[l]? with
    | some (.lst ys) => match ys[i]? with
      | some x => (noExc (set (.d x) η S)).bind fun η1 S1 => (body η1 S1).bind fun f S2 => match f with
        | .nx η2 => forLoc l n (i + 1) η2 S2
        | .cont η2 => forLoc l n (i + 1) η2 S2
        | .brk η2 => .ok (.nx η2) S2
        | .ret w => .ok (.ret w) S2
      | none => .stk
    | _ => .stk
def forSrc (src : Src) (η : Env) (S : Store) : Res Flow :=
  match src with
  | .fix xs => forFix set body xs η S
  | .loc l n => forLoc set body l n 0 η S
end

def whileL (c : Env → Store → Res Bool) (body : Env → Store → Res Flow) : Nat → Env → Store → Res Flow
  | 0, _, _ => .stk
  | n + 1, η, S => (c η S).bind fun b S1 => if b = true then (body η S1).bind fun f S2 => match f with
      | .nx η2 => whileL c body n η2 S2
      | .cont η2 => whileL c body n η2 S2
      | .brk η2 => .ok (.nx η2) S2
      | .ret w => .ok (.ret w) S2
    else .ok (.nx η) S1

def wipeE (η : Env) : List Nat → Env
  | [] => η
  | v :: vs => (wipeE η vs).set v none

def getV (η : Env) (i : Nat) : Option W := match η[i]? with
  | some (some w) => some w
  | _ => none

/-- the class of an object -/
def clsOf (w : W) (S : Store) : Option Nat :=
  match w with
  | .d (.obj c _) => some c
  | .loc l => match S[l]? with
    | some (.ins c _) => some c
    | _ => none
  | _ => none
def IEs.len : IEs → Nat
  | .nil => 0
  | .cons _ es => es.len + 1
def lookN {α : Type} (k : Nat) : List (Nat × α) → Option α
  | [] => none
  | (j, x) :: r => if k = j then some x else lookN k r
def putN {α : Type} (k : Nat) (y : α) : List (Nat × α) → List (Nat × α)
  | [] => [(k, y)]
  | (j, x) :: r => if j = k then (j, y) :: r else (j, x) :: putN k y r
/-- an ordinary class -/
def ordC (P : Prog) (c : Nat) : Bool := match P.cls[c]? with
  | some k => k.exc.isNone
  | none => false
/-- what isinstance can be asked of -/
def tyOk0 (P : Prog) : Ty → Bool
  | .cls c => ordC P c
  | .valueError => false
  | _ => true
/-- the receiver of a built-in type's method -/
def recvOk (m : BM) (o : W) (S : Store) : Bool := match m with
  | .join => (o matches .d (.str _))
  | .split => (o matches .d (.str _))
  | .tcount => (o matches .d (.tup _))
  | _ => (lstOf o S).isSome
def fldD (P : Prog) (w : W) (f : Nat) (S : Store) : Option W :=
  match w with
  | .d (.obj c fs) => if ordC P c then (lookN f fs).map .d else none
  | .exn _ fs => (lookN f fs).map .d
  | .loc l => match S[l]? with
    | some (.ins c fs) => if ordC P c then lookN f fs else none
    | _ => none
  | _ => none

/-- ascending, each once -/
def insU (i : Int) : List Int → List Int
  | [] => [i]
  | j :: r => if i < j then i :: j :: r else if i = j then j :: r else j :: insU i r
def sortU (ns : List Int) : List Int := ns.foldr insU []
/-- what is asked of a set -/
def setD (o : SO) (w : W) (S : Store) : Option D := match o with
  | .sort => (seqOf w S).bind fun p => (intsOf p.2).bind fun ns => if ns.length < 4000 ∧ (sortU ns).length < 64 then some (.lst ((sortU ns).map .int)) else none
  | .len => (seqOf w S).bind fun p => (intsOf p.2).bind fun ns => if ns.length < 4000 then some (.int ((sortU ns).length : Nat)) else none
/-- repr(x) -/
def reprD (w : W) : Option D := match w with
  | .d (.dic []) => some (.str [123, 125])
  | .d x => (toPD x).bind fun p => if PySem.PyData.showable p = true ∧ PySem.PyData.hasDict p = false ∧ p.depth ≤ 64 ∧ (PySem.PyData.shown p).length ≤ line then some (.str (PySem.PyData.shown p).cps.toList) else none
  | _ => none
/-- a comprehension's end -/
def finS (th : Bool) (acc : List D) (S : Store) : Res W := match th with
  | true => .ok (.loc S.length) (S ++ [.lst acc])
  | false => .ok (.d (.lst acc)) S
/-- the object has no field of that name -/
def noFld (m : Nat) (w : W) (S : Store) : Bool := match w with
  | .d (.obj _ fs) => (lookN m fs).isNone
  | .loc l => match S[l]? with
    | some (.ins _ fs) => (lookN m fs).isNone
    | _ => false
  | _ => false
/-- the method's def -/
def methOf (P : Prog) (m : Nat) (o : W) (n : Nat) (S : Store) : Option Nat :=
  match clsOf o S with
  | some c => match P.cls[c]? with
    | some k => match lookN m k.meths with
      | some f => match P.fns[f]? with
        | some fd => if ordC P c = true ∧ noFld m o S = true ∧ n + 1 = fd.np then some f else none
        | none => none
      | none => none
    | none => none
  | none => none
/-- a new list's cell -/
def thawD (w : W) (S : Store) : Res W :=
  match w with
  | .d (.lst xs) => .ok (.loc S.length) (S ++ [.lst xs])
  | .d (.dic kvs) => .ok (.loc S.length) (S ++ [.dct kvs])
  | _ => .stk

def setSub (o i w : W) (S : Store) : Res Unit :=
  match o, i with
  | .loc l, .d (.int k) => match S[l]? with
    | some (.lst xs) => match L2.ixN xs.length k with
      | some j => (toD w S).bind fun x S1 => match S1[l]? with
        | some (.lst xs) => .ok () (S1.set l (.lst (xs.set j x)))
        | _ => .stk
      | none => .stk
    | some (.lsw ws) => match L2.ixN ws.length k with
      | some j => .ok () (S.set l (.lsw (ws.set j w)))
      | none => .stk
    | _ => .stk
  | _, _ => .stk
/-- d[k] = w -/
def setDic (o i w : W) (S : Store) : Res Unit :=
  match o, i with
  | .loc l, .d k => if (keyD k).isSome = true then (match S[l]? with
    | some (.dct kvs) => if kvs.length < line then (match w with
      | .d x => .ok () (S.set l (.dct (dput kvs k x)))
      | _ => .stk) else .stk
    | _ => .stk) else .stk
  | _, _ => .stk
/-- d[(..)] = w -/
def setTic (o i w : W) (S : Store) : Res Unit :=
  match o, i with
  | .loc l, .d k => (match keysI k, S[l]? with
    | some ks, some (.dtt kvs) => if kvs.length < line then (match w with
      | .d x => .ok () (S.set l (.dtt (tput kvs ks x)))
      | _ => .stk) else .stk
    | _, _ => .stk)
  | _, _ => .stk
def setFld (P : Prog) (o : W) (f : Nat) (w : W) (S : Store) : Res Unit :=
  match o with
  | .loc l => match S[l]? with
    | some (.ins c fs) => if fs.length < 900 ∧ ordC P c then .ok () (S.set l (.ins c (putN f w fs))) else .stk
    | _ => .stk
  | _ => .stk

section
variable (C : Ctx)
/-- the class stands under the other one -/
def supC (P : Prog) (c c' : Nat) : Bool := match P.cls[c]? with
  | some k => k.sups.contains c'
  | none => false
/-- == and != where the left side is an object with an __eq__ of its own -/
def eqOwn (a b : W) (S : Store) : Option Nat :=
  match clsOf a S, clsOf b S with
  | some c, some c' => if (c = c' ∨ supC C.P c c' = true) ∧ ordC C.P c' = true then (match C.P.cls[c]? with
    | some k => lookN 0 k.meths
    | none => none) else none
  | _, _ => none
def ownEq (a : W) (S : Store) : Option Nat := match clsOf a S with
  | some c => match C.P.cls[c]? with
    | some k => lookN 0 k.meths
    | none => none
  | none => none
/-- the same, and where the right side is a tuple or None -/
def eqOwnE (a b : W) (S : Store) : Option Nat := match eqOwn C a b S with
  | some f => some f
  | none => match b with
    | .d (.tup _) => ownEq C a S
    | .d .non => ownEq C a S
    | _ => none
theorem eqOwnE_none {a b : W} {S : Store} (h : eqOwn C a b S = none) (h2 : ownEq C a S = none) : eqOwnE C a b S = none := by
  unfold eqOwnE
  rw [h]
  dsimp only
  split <;> first | exact h2 | rfl
@[simp] theorem eqOwnE_str (s : List Nat) (b : W) (S : Store) : eqOwnE C (.d (.str s)) b S = none := eqOwnE_none C rfl rfl
@[simp] theorem eqOwnE_int (s : Int) (b : W) (S : Store) : eqOwnE C (.d (.int s)) b S = none := eqOwnE_none C rfl rfl
@[simp] theorem eqOwnE_bl (s : Bool) (b : W) (S : Store) : eqOwnE C (.d (.bl s)) b S = none := eqOwnE_none C rfl rfl
@[simp] theorem eqOwnE_non (b : W) (S : Store) : eqOwnE C (.d .non) b S = none := eqOwnE_none C rfl rfl
@[simp] theorem eqOwnE_tup (s : List D) (b : W) (S : Store) : eqOwnE C (.d (.tup s)) b S = none := eqOwnE_none C rfl rfl
@[simp] theorem eqOwnE_lst (s : List D) (b : W) (S : Store) : eqOwnE C (.d (.lst s)) b S = none := eqOwnE_none C rfl rfl
@[simp] theorem eqOwnE_dic (s : List (D × D)) (b : W) (S : Store) : eqOwnE C (.d (.dic s)) b S = none := eqOwnE_none C rfl rfl
def cmpW (o : COp) (a b : W) (S : Store) : Res W :=
  match o with
  | .eq => match eqOwnE C a b S with
    | some f => (noExc (C.call f [a, b] S)).bind fun w S1 => match w with
      | .d (.bl k) => .ok (.d (.bl k)) S1
      | _ => .stk
    | none => (ofO (cmpD .eq a b S) S).bind fun k S1 => .ok (.d (.bl k)) S1
  | .ne => match eqOwn C a b S with
    | some f => (noExc (C.call f [a, b] S)).bind fun w S1 => match w with
      | .d (.bl k) => .ok (.d (.bl (!k))) S1
      | _ => .stk
    | none => (ofO (cmpD .ne a b S) S).bind fun k S1 => .ok (.d (.bl k)) S1
  | o => (ofO (cmpD o a b S) S).bind fun k S1 => .ok (.d (.bl k)) S1

/-- a new object -/
def mkW (c : Nat) (ws : List W) (S : Store) : Res W :=
  match C.P.cls[c]? with
  | some k => match k.init with
    | some f => (C.call f (.loc S.length :: ws) (S ++ [.ins c []])).bind fun w S1 => match w with
      | .d .non => if k.frozen then match S1[S.length]? with
          | some (.ins c' fs) => match wsD fs with
            | some ds => if c' = c ∧ belows S.length (S1.take S.length) ∧ S.length < S1.length then .ok (.d (.obj c ds)) (S1.take S.length) else .stk
            | none => .stk
          | _ => .stk
        else .ok (.loc S.length) S1
      | _ => .stk
    | none => .stk
  | none => .stk

def lineR : Int := 4611686018427387904
/-- isinstance can be asked of it: an object of an ordinary class, or the error that is handled -/
def isiOk (P : Prog) (w : W) (t : Ty) : Bool := match w with
  | .exn _ _ => true
  | _ => tyOk0 P t
@[simp] theorem isiOk_d (P : Prog) (x : D) (t : Ty) : isiOk P (.d x) t = tyOk0 P t := rfl
@[simp] theorem isiOk_loc (P : Prog) (l : Nat) (t : Ty) : isiOk P (.loc l) t = tyOk0 P t := rfl
@[simp] theorem isiOk_scr (P : Prog) (l : List Int) (t : Ty) : isiOk P (.scr l) t = tyOk0 P t := rfl
@[simp] theorem isiOk_exn (P : Prog) (c : Nat) (fs : List (Nat × D)) (t : Ty) : isiOk P (.exn c fs) t = true := rfl
/-- an error class -/
def excC (P : Prog) (c : Nat) : Bool := match P.cls[c]? with
  | some k => k.exc.isSome
  | none => false
def fieldsOf : List Nat → List W → Option (List (Nat × D))
  | [], [] => some []
  | f :: fs, .d x :: ws => (fieldsOf fs ws).map ((f, x) :: ·)
  | _, _ => none
theorem ord_exc {P : Prog} {c : Nat} (h1 : ordC P c = true) (h2 : excC P c = true) : False := by
  unfold ordC at h1
  unfold excC at h2
  cases e : P.cls[c]? with
  | none => rw [e] at h1; cases h1
  | some k =>
    rw [e] at h1 h2
    dsimp only at h1 h2
    cases e2 : k.exc with
    | none => rw [e2] at h2; cases h2
    | some x => rw [e2] at h1; cases h1
def noExn : Env → Bool
  | [] => true
  | some (.exn _ _) :: _ => false
  | _ :: r => noExn r

abbrev VT := (Env → Store → Res W) × (Env → Store → Res Bool)
/-- a value, and its truth -/
def mkV (f : Env → Store → Res W) : VT := (f, fun η S => (f η S).bind fun x S1 => ofO (truthy x S1) S1)

mutual
/-- the value of an expression, and its worth as a test -/
def evalP : IE → VT
  | .var i => mkV fun η S => ofO (getV η i) S
  | .glob k => mkV fun _ S => (ofO C.P.consts[k]? S).bind fun x S => .ok (.d x) S
  | .fnv f => mkV fun _ S => .ok (.d (.fn f)) S
  | .non => mkV fun _ S => .ok (.d .non) S
  | .bl b => mkV fun _ S => .ok (.d (.bl b)) S
  | .int i => mkV fun _ S => .ok (.d (.int i)) S
  | .str s => mkV fun _ S => .ok (.d (.str s)) S
  | .tup es => mkV fun η S => (evalEs es η S).bind fun ws S1 => (toDs ws S1).bind fun xs S2 => .ok (.d (.tup xs)) S2
  | .lst es => mkV fun η S => (evalEs es η S).bind fun ws S1 => (toDs ws S1).bind fun xs S2 => .ok (.d (.lst xs)) S2
  | .dic0 => mkV fun _ S => .ok (.d (.dic [])) S
  | .bin o a b => mkV fun η S => ((evalP a).1 η S).bind fun x S1 => ((evalP b).1 η S1).bind fun y S2 => (ofO (binD o x y S2) S2).bind fun z S3 => .ok (.d z) S3
  | .neg a => mkV fun η S => ((evalP a).1 η S).bind fun x S1 => match x with
    | .d (.int i) => .ok (.d (.int (-i))) S1
    | _ => .stk
  | .not a => (fun η S => ((evalP a).1 η S).bind fun x S1 => (ofO (truthy x S1) S1).bind fun b S2 => .ok (.d (.bl (!b))) S2,
      fun η S => ((evalP a).2 η S).bind fun b S1 => .ok (!b) S1)
  | .cmp o a b => mkV fun η S => ((evalP a).1 η S).bind fun x S1 => ((evalP b).1 η S1).bind fun y S2 => cmpW C o x y S2
  | .cmpd o a b => mkV fun η S => ((evalP a).1 η S).bind fun x S1 => ((evalP b).1 η S1).bind fun y S2 => (ofO (cmpD o x y S2) S2).bind fun k S3 => .ok (.d (.bl k)) S3
  | .chain o o' a b c => mkV fun η S => ((evalP a).1 η S).bind fun x S1 => ((evalP b).1 η S1).bind fun y S2 => (ofO (cmpD o x y S2) S2).bind fun k S3 =>
      if k = true then ((evalP c).1 η S3).bind fun z S4 => (ofO (cmpD o' y z S4) S4).bind fun k' S5 => .ok (.d (.bl k')) S5 else .ok (.d (.bl false)) S3
  | .isn neg a => mkV fun η S => ((evalP a).1 η S).bind fun x S1 => match x with
    | .d .non => .ok (.d (.bl (!neg))) S1
    | _ => .ok (.d (.bl neg)) S1
  | .isb b a => mkV fun η S => ((evalP a).1 η S).bind fun x S1 => match x with
    | .d (.bl k) => .ok (.d (.bl (k == b))) S1
    | _ => .stk
  | .and es => evalAnd es
  | .or es => evalOr es
  | .ifx c a b => mkV fun η S => ((evalP c).2 η S).bind fun k S1 => if k = true then (evalP a).1 η S1 else (evalP b).1 η S1
  | .call f es => mkV fun η S => (evalEs es η S).bind fun ws S1 => C.call f ws S1
  | .callv i es => mkV fun η S => (ofO (getV η i) S).bind fun w S => match w with
    | .d (.fn f) => match C.P.fns[f]? with
      | some fd => (evalEs es η S).bind fun ws S1 => if ws.length = fd.np then C.call f ws S1 else .stk
      | none => .stk
    | _ => .stk
  | .callx a es => mkV fun η S => ((evalP a).1 η S).bind fun w S1 => match w with
    | .d (.fn f) => match C.P.fns[f]? with
      | some fd => (evalEs es η S1).bind fun ws S2 => if ws.length = fd.np then C.call f ws S2 else .stk
      | none => .stk
    | _ => .stk
  | .meth e m es => mkV fun η S => ((evalP e).1 η S).bind fun o S1 => match methOf C.P m o es.len S1 with
    | some f => (evalEs es η S1).bind fun ws S2 => C.call f (o :: ws) S2
    | none => .stk
  | .mk c es => mkV fun η S => (evalEs es η S).bind fun ws S1 => mkW C c ws S1
  | .bi b es => mkV fun η S => (evalEs es η S).bind fun ws S1 => (ofO (biD b ws S1) S1).bind fun x S2 => .ok (.d x) S2
  | .bm e m es => mkV fun η S => ((evalP e).1 η S).bind fun o S1 => if recvOk m o S1 = true then (evalEs es η S1).bind fun ws S2 => bmD m o ws S2 else .stk
  | .fld e f => mkV fun η S => ((evalP e).1 η S).bind fun o S1 => ofO (fldD C.P o f S1) S1
  | .ix a b => mkV fun η S => ((evalP a).1 η S).bind fun x S1 => ((evalP b).1 η S1).bind fun y S2 => ofO (ixD x y S2) S2
  | .sl a lo hi => mkV fun η S => ((evalP a).1 η S).bind fun x S1 => (evalO lo η S1).bind fun l S2 => (evalO hi η S2).bind fun h S3 => (ofO (slD x l h S3) S3).bind fun z S4 => .ok (.d z) S4
  | .lc e own t it ifs => mkV fun η S => noExc ((evalI it η S).bind fun src S1 => (lcSrc (setT t) (evalC ifs) (evalP e).1 (wipeE η own) src S1).bind fun xs S2 => .ok (.d (.lst xs)) S2)
  | .isi e ts => mkV fun η S => ((evalP e).1 η S).bind fun x S1 => (ofO (tyName x S1) S1).bind fun t S2 => if isiOk C.P x t = true then .ok (.d (.bl (ts.any fun u => tyIs C.P t u))) S2 else .stk
  | .rep a => mkV fun η S => ((evalP a).1 η S).bind fun w S1 => (ofO (reprD w) S1).bind fun z S2 => .ok (.d z) S2
  | .lrng a => mkV fun η S => ((evalP a).1 η S).bind fun w S1 => match w with
    | .d (.int n) => if -lineR ≤ n ∧ n < 16777216 then .ok (.d (.lst ((List.range n.toNat).map fun i => .int (i : Nat)))) S1 else .stk
    | _ => .stk
  | .isx e t => mkV fun η S => ((evalP e).1 η S).bind fun x S1 => match x with
    | .exn c _ => if excC C.P c = true then .ok (.d (.bl (tyIs C.P (.cls c) t))) S1 else .stk
    | _ => .stk
  | .flx e f => mkV fun η S => ((evalP e).1 η S).bind fun x S1 => match x with
    | .exn c fs => if excC C.P c = true then (ofO (lookN f fs) S1).bind fun z S2 => .ok (.d z) S2 else .stk
    | _ => .stk
  | .lsw es => mkV fun η S => (evalEs es η S).bind fun ws S1 => .ok (.loc S1.length) (S1 ++ [.lsw ws])
  | .tix a b => mkV fun η S => ((evalP a).1 η S).bind fun x S1 => ((evalP b).1 η S1).bind fun y S2 => match tgetD x y S2 with
    | some (some z) => .ok (.d z) S2
    | _ => .stk
  | .tin neg b a => mkV fun η S => ((evalP b).1 η S).bind fun y S1 => ((evalP a).1 η S1).bind fun x S2 => match tgetD x y S2 with
    | some o => .ok (.d (.bl (if neg then !o.isSome else o.isSome))) S2
    | none => .stk
  | .tnew => mkV fun _ S => .ok (.loc S.length) (S ++ [.dtt []])
  | .lzip a b => mkV fun η S => ((evalP a).1 η S).bind fun x S1 => ((evalP b).1 η S1).bind fun y S2 => match x, y with
    | .d (.lst xs), .d (.lst ys) => .ok (.d (.lst ((xs.zip ys).map fun p => .tup [p.1, p.2]))) S2
    | _, _ => .stk
  | .dic1 a b => mkV fun η S => ((evalP a).1 η S).bind fun x S1 => ((evalP b).1 η S1).bind fun y S2 => match x with
    | .d (.int i) => (toD y S2).bind fun z S3 => .ok (.d (.dic [(.int i, z)])) S3
    | _ => .stk
  | .mkx c es => mkV fun η S => (evalEs es η S).bind fun ws S1 => match C.P.cls[c]? with
    | some k => match k.exc with
      | some fs => match fieldsOf fs ws with
        | some ds => .ok (.d (.obj c ds)) S1
        | none => .stk
      | none => .stk
    | none => .stk
  | .fle e f => mkV fun η S => ((evalP e).1 η S).bind fun x S1 => match x with
    | .d (.obj c fs) => if excC C.P c = true then (ofO (lookN f fs) S1).bind fun z S2 => .ok (.d z) S2 else .stk
    | _ => .stk
  | .ise e t => mkV fun η S => ((evalP e).1 η S).bind fun x S1 => match x with
    | .d (.obj c _) => if excC C.P c = true then .ok (.d (.bl (tyIs C.P (.cls c) t))) S1 else .stk
    | _ => .stk
  | .setop o a => mkV fun η S => ((evalP a).1 η S).bind fun x S1 => (ofO (setD o x S1) S1).bind fun z S2 => .ok (.d z) S2
  | .lc2 e own t it t2 it2 => mkV fun η S => noExc ((evalI it η S).bind fun src S1 => (lcSrc2 (setT t) (evalI it2) (setT t2) (evalP e).1 (wipeE η own) src S1).bind fun xs S2 => .ok (.d (.lst xs)) S2)
  | .dix a b => mkV fun η S => ((evalP a).1 η S).bind fun x S1 => ((evalP b).1 η S1).bind fun y S2 => match dgetD x y S2 with
    | some (some z) => .ok (.d z) S2
    | _ => .stk
  | .din neg b a => mkV fun η S => ((evalP b).1 η S).bind fun y S1 => ((evalP a).1 η S1).bind fun x S2 => match dgetD x y S2 with
    | some o => .ok (.d (.bl (if neg then !o.isSome else o.isSome))) S2
    | none => .stk
  | .dget a b c => mkV fun η S => ((evalP a).1 η S).bind fun x S1 => if (dicOf x S1).isSome = true then ((evalP b).1 η S1).bind fun y S2 => ((evalP c).1 η S2).bind fun z S3 => match dgetD x y S3, z with
    | some o, .d z => .ok (.d (o.getD z)) S3
    | _, _ => .stk else .stk
  | .dkeys a => mkV fun η S => ((evalP a).1 η S).bind fun x S1 => match dicOf x S1 with
    | some kvs => .ok (.d (.lst (kvs.map (·.1)))) S1
    | none => .stk
  | .dlen a => mkV fun η S => ((evalP a).1 η S).bind fun x S1 => match dicOf x S1 with
    | some kvs => .ok (.d (.int kvs.length)) S1
    | none => .stk
  | .srt a => mkV fun η S => ((evalP a).1 η S).bind fun x S1 => match (lstOf x S1).bind intsOf with
    | some ns => if ns.length < 64 then .ok (.d (.lst ((sortI ns).map .int))) S1 else .stk
    | none => .stk
  | .rev a => mkV fun η S => ((evalP a).1 η S).bind fun x S1 => match x with
    | .d (.tup xs) => if xs.length ≤ 1000 then .ok (.d (.tup xs.reverse)) S1 else .stk
    | .d (.lst xs) => if xs.length ≤ 1000 then .ok (.d (.lst xs.reverse)) S1 else .stk
    | _ => .stk
  | .kget k a d => mkV fun η S => ((evalP a).1 η S).bind fun x S1 => match x with
    | .d (.str s) => ((evalP d).1 η S1).bind fun z S2 => match z, C.P.tabs[k]? with
      | .d z, some T => .ok (.d ((tabD T s).getD z)) S2
      | _, _ => .stk
    | _ => .stk
  | .kin k neg a => mkV fun η S => ((evalP a).1 η S).bind fun x S1 => match x, C.P.tabs[k]? with
    | .d (.str s), some T => .ok (.d (.bl (if neg then !(tabD T s).isSome else (tabD T s).isSome))) S1
    | _, _ => .stk
  | .kix k a => mkV fun η S => ((evalP a).1 η S).bind fun x S1 => match x, C.P.tabs[k]? with
    | .d (.str s), some T => (ofO (tabD T s) S1).bind fun z S2 => .ok (.d z) S2
    | _, _ => .stk
  | .dpr a => mkV fun η S => ((evalP a).1 η S).bind fun x S1 => match (lstOf x S1).bind (dofP []) with
    | some kvs => .ok (.d (.dic kvs)) S1
    | none => .stk
  | .dnew => mkV fun _ S => .ok (.loc S.length) (S ++ [.dct []])
  | .thaw e => mkV fun η S => ((evalP e).1 η S).bind fun w S1 => thawD w S1
termination_by structural x => x
def evalEs : IEs → Env → Store → Res (List W)
  | .nil => fun _ S => .ok [] S
  | .cons e es => fun η S => ((evalP e).1 η S).bind fun w S1 => (evalEs es η S1).bind fun ws S2 => .ok (w :: ws) S2
termination_by structural x => x
def evalAnd : IEs → VT
  | .nil => (fun _ _ => .stk, fun _ _ => .stk)
  | .cons e .nil => evalP e
  | .cons e (.cons e2 r) => (fun η S => ((evalP e).1 η S).bind fun x S1 => (ofO (truthy x S1) S1).bind fun k S2 => if k = true then (evalAnd (.cons e2 r)).1 η S2 else .ok x S2,
      fun η S => ((evalP e).2 η S).bind fun k S1 => if k = true then (evalAnd (.cons e2 r)).2 η S1 else .ok false S1)
termination_by structural x => x
def evalOr : IEs → VT
  | .nil => (fun _ _ => .stk, fun _ _ => .stk)
  | .cons e .nil => evalP e
  | .cons e (.cons e2 r) => (fun η S => ((evalP e).1 η S).bind fun x S1 => (ofO (truthy x S1) S1).bind fun k S2 => if k = true then .ok x S2 else (evalOr (.cons e2 r)).1 η S2,
      fun η S => ((evalP e).2 η S).bind fun k S1 => if k = true then .ok true S1 else (evalOr (.cons e2 r)).2 η S1)
termination_by structural x => x
def evalO : IO → Env → Store → Res (Option Int)
  | .no => fun _ S => .ok none S
  | .yes e => fun η S => ((evalP e).1 η S).bind fun w S1 => match w with
    | .d (.int i) => .ok (some i) S1
    | _ => .stk
termination_by structural x => x
/-- a comprehension's test -/
def evalC : IO → Env → Store → Res Bool
  | .no => fun _ S => .ok true S
  | .yes e => (evalP e).2
termination_by structural x => x
def evalI : II → Env → Store → Res Src
  | .seq e => fun η S => ((evalP e).1 η S).bind fun w S1 => match w with
    | .loc l => match S1[l]? with
      | some (.lst ys) => .ok (.loc l ys.length) S1
      | _ => .stk
    | .d (.str s) => .ok (.fix (s.map fun c => .str [c])) S1
    | w => match seqOf w S1 with
      | some (_, xs) => .ok (.fix xs) S1
      | none => .stk
  | .rng a => fun η S => ((evalP a).1 η S).bind fun w S1 => match w with
    | .d (.int n) => if -lineR ≤ n ∧ n < lineR then .ok (.fix ((List.range n.toNat).map fun i => .int (i : Nat))) S1 else .stk
    | _ => .stk
  | .rng2 a b => fun η S => ((evalP a).1 η S).bind fun w S1 => ((evalP b).1 η S1).bind fun u S2 => match w, u with
    | .d (.int i), .d (.int n) => if (-lineR ≤ i ∧ i < lineR) ∧ -lineR ≤ n ∧ n < lineR then .ok (.fix ((List.range (n - i).toNat).map fun (k : Nat) => .int (i + k))) S2 else .stk
    | _, _ => .stk
  | .rngd a b => fun η S => ((evalP a).1 η S).bind fun w S1 => ((evalP b).1 η S1).bind fun u S2 => match w, u with
    | .d (.int i), .d (.int n) => if (-1000000 ≤ i ∧ i < 1000000) ∧ -1000000 ≤ n ∧ n < 1000000 then .ok (.fix ((List.range (i - n).toNat).map fun (k : Nat) => .int (i + k * -1))) S2 else .stk
    | _, _ => .stk
  | .enum e => fun η S => ((evalP e).1 η S).bind fun w S1 => match w with
    | .loc _ => .stk
    | w => match seqOf w S1 with
      | some (_, xs) => .ok (.fix (xs.mapIdx fun i x => .tup [.int (i : Nat), x])) S1
      | none => .stk
  | .zip a b => fun η S => ((evalP a).1 η S).bind fun w S1 => ((evalP b).1 η S1).bind fun u S2 => match w, u with
    | .d x, .d y => match seqOf (.d x) S2, seqOf (.d y) S2 with
      | some (_, xs), some (_, ys) => .ok (.fix ((xs.zip ys).map fun p => .tup [p.1, p.2])) S2
      | _, _ => .stk
    | _, _ => .stk
termination_by structural x => x
/-- target = value -/
def setT : IT → W → Env → Store → Res Env
  | .nm i => fun w η S => if i < η.length then .ok (η.set i (some w)) S else .stk
  | .tup ts => fun w η S => match seqOf w S with
    | some (.tup, xs) => setTs ts xs η S
    | _ => .stk
  | .sub o i => fun w η S => ((evalP o).1 η S).bind fun x S1 => ((evalP i).1 η S1).bind fun k S2 => (setSub x k w S2).bind fun _ S3 => .ok η S3
  | .fld o f => fun w η S => ((evalP o).1 η S).bind fun x S1 => (setFld C.P x f w S1).bind fun _ S2 => .ok η S2
  | .tsub o i => fun w η S => ((evalP o).1 η S).bind fun x S1 => ((evalP i).1 η S1).bind fun k S2 => (setTic x k w S2).bind fun _ S3 => .ok η S3
  | .dsub o i => fun w η S => ((evalP o).1 η S).bind fun x S1 => ((evalP i).1 η S1).bind fun k S2 => (setDic x k w S2).bind fun _ S3 => .ok η S3
termination_by structural x => x
def setTs : ITs → List D → Env → Store → Res Env
  | .nil => fun xs η S => match xs with
    | [] => .ok η S
    | _ => .stk
  | .cons t ts => fun xs η S => match xs with
    | x :: xs => (setT t (.d x) η S).bind fun η1 S1 => setTs ts xs η1 S1
    | [] => .stk
termination_by structural x => x
end
def evalE (e : IE) : Env → Store → Res W := (evalP C e).1
def evalT (e : IE) : Env → Store → Res Bool := (evalP C e).2

/-- names get values -/
def setNs : List Nat → List W → Env → Option Env
  | [], [], η => some η
  | i :: is, w :: ws, η => if i < η.length then setNs is ws (η.set i (some w)) else none
  | _, _, _ => none

mutual
def execS : IS → Env → Store → Res Flow
  | .expr e, η, S => (evalE C e η S).bind fun _ S1 => .ok (.nx η) S1
  | .ret e, η, S => (evalE C e η S).bind fun w S1 => .ok (.ret w) S1
  | .retN, _, S => .ok (.ret (.d .non)) S
  | .pass, η, S => .ok (.nx η) S
  | .brk, η, S => .ok (.brk η) S
  | .cont, η, S => .ok (.cont η) S
  | .asg t e, η, S => (evalE C e η S).bind fun w S1 => (noExc (setT C t w η S1)).bind fun η1 S2 => .ok (.nx η1) S2
  | .par is es, η, S => (evalEs C es η S).bind fun ws S1 => (ofO (setNs is ws η) S1).bind fun η1 S2 => .ok (.nx η1) S2
  | .aug i o e, η, S => (ofO (getV η i) S).bind fun x S => (evalE C e η S).bind fun y S1 => (ofO (binD o x y S1) S1).bind fun z S2 =>
      if i < η.length then .ok (.nx (η.set i (some (.d z)))) S2 else .stk
  | .ife c a b, η, S => (evalT C c η S).bind fun k S1 => if k = true then execSs a η S1 else execSs b η S1
  | .for_ t it b, η, S => (evalI C it η S).bind fun src S1 => forSrc (setT C t) (execSs b) src η S1
  | .whl c b, η, S => whileL (evalT C c) (execSs b) C.fu η S
  | .raise c es, η, S => (evalEs C es η S).bind fun ws S1 => match C.P.cls[c]? with
    | some k => match k.exc with
      | some fs => match fieldsOf fs ws with
        | some ds => .exc c ds S1
        | none => .stk
      | none => .stk
    | none => .stk
  | .tryx body c i suite, η, S => match execB body η S with
    | .exc c' fs S1 => if excC C.P c' = true ∧ i < η.length then (if tyIs C.P (.cls c') (.cls c) = true then
        (noExc (execSs suite (η.set i (some (.exn c' fs))) S1)).bind fun f S2 => match f with
          | .nx η1 => if noExn (η1.set i none) = true then .ok (.nx (η1.set i none)) S2 else .stk
          | _ => .stk
      else .exc c' fs S1) else .stk
    | r => r
  | .tryo body c suite, η, S => match execB body η S with
    | .exc c' fs S1 => if excC C.P c' = true then (if tyIs C.P (.cls c') (.cls c) = true then
        (noExc (execSs suite η S1)).bind fun f S2 => match f with
          | .nx η1 => .ok (.nx η1) S2
          | _ => .stk
      else .exc c' fs S1) else .stk
    | r => r
termination_by structural x => x
def execSs : ISs → Env → Store → Res Flow
  | .nil, η, S => .ok (.nx η) S
  | .cons s ss, η, S => (execS s η S).bind fun f S1 => match f with
    | .nx η1 => execSs ss η1 S1
    | f => .ok f S1
termination_by structural x => x
def execB : IB → Env → Store → Res Flow
  | .one s rest, η, S => (execS s η S).bind fun f S1 => match f with
    | .nx η1 => noExc (execSs rest η1 S1)
    | f => .ok f S1
  | .ifb c a b rest, η, S => ((evalT C c η S).bind fun k S1 => if k = true then execB a η S1 else execB b η S1).bind fun f S1 => match f with
    | .nx η1 => noExc (execSs rest η1 S1)
    | f => .ok f S1
termination_by structural x => x
end
end

/-! ### calls -/
def freeze (n : Nat) (w : W) (S : Store) : Option W :=
  match w with
  | .d x => some (.d x)
  | .loc l => if l < n then some (.loc l) else (S[l]?.bind cellD).map .d
  | _ => none
/-- a def's end: what it made for itself is let go -/
def close (keep : Bool) (n : Nat) (w : W) (S : Store) : Res W :=
  if keep then .ok w S else if belows n (S.take n) ∧ n ≤ S.length then (match freeze n w S with
    | some v => .ok v (S.take n)
    | none => .stk) else .stk
def finish (keep : Bool) (n : Nat) (r : Res Flow) : Res W :=
  match r with
  | .ok (.nx _) S => close keep n (.d .non) S
  | .ok (.ret w) S => close keep n w S
  | .exc c fs S => if keep then .exc c fs S else if belows n (S.take n) ∧ n ≤ S.length then .exc c fs (S.take n) else .stk
  | _ => .stk
def startE (nl : Nat) (ws : List W) : Env := ws.map some ++ List.replicate (nl - ws.length) none
def callF (P : Prog) (fu : Nat) : Nat → Nat → List W → Store → Res W
  | 0, _, _, _ => .stk
  | n + 1, f, ws, S => match P.fns[f]? with
    | some fd => if ws.length = fd.np then finish fd.keep S.length (execSs ⟨callF P fu n, P, fu⟩ fd.body (startE fd.N.length ws) S) else .stk
    | none => .stk
end RI
namespace RI
open PySem PySem.Spec PyProof.Rows L2
structure Wd where
  K : PySem.W.Frag
  ca : Nat → Addr
  fa : Nat → Addr
  nm : Nat → Str
  /-- which classes are errors -/
  exc : Nat → Bool
abbrev Str' (s : List Nat) : Str := ⟨s.toArray⟩

def bltNames : List Str := ["abs", "all", "any", "int", "len", "list", "str", "sum", "tuple", "min", "repr", "sorted", "range", "enumerate", "zip", "isinstance", "bool", "dict", "ValueError", "set"]
def tyVal (G : Wd) : Ty → Value
  | .none => .type "NoneType" | .bool => .type "bool" | .int => .type "int" | .str => .type "str" | .tuple => .type "tuple" | .list => .type "list" | .dict => .type "dict" | .cls c => .ref (G.ca c) | .valueError => .type "ValueError"
def veB : List Value := [.type "ValueError", .type "Exception", .type "BaseException", .type "object"]
/-- every name's id has a name of its own -/
def nmOf (ns : List Str) (k : Nat) : Str := ns.getD k (Str' (35 :: List.replicate k 35))
section
variable (K : PySem.W.Frag)
def atN (x : Str) (u : Option Value) : Bool := He.eqO (PySem.W.nsIn K mainGlobals x) (some u)
mutual
def cB : D → Value → Bool
  | .non, .none => true
  | .bl b, .bool c => b == c
  | .int i, .int j _ => decide (i = j)
  | .str x, .str y _ => decide (Str' x = y)
  | .tup xs, .ref a => match K.lookup a with
    | some ⟨.type c, .none, .seq its _, _⟩ => decide (c = "tuple") && (decide (its.size ≤ sizeLine) && cBs xs its.toList)
    | _ => false
  | _, _ => false
termination_by structural x => x
def cBs : List D → List Value → Bool
  | [], [] => true
  | x :: xs, u :: us => cB x u && cBs xs us
  | _, _ => false
termination_by structural x => x
end
end
/-- the world of a law -/
def wdOf (P : Prog) (ds : List He.DefD) (ns : List Str) (K : PySem.W.Frag) : Wd where
  K := K
  ca c := He.ga K ((P.cls[c]?.map (·.name)).getD Str.empty)
  fa f := He.fAd K ((ds[f]?.map (·.at_)).getD (Str.empty, none))
  nm := nmOf ns
  exc c := excC P c
section
variable (P : Prog) (ds : List He.DefD) (ns : List Str) (K : PySem.W.Frag)
def clsB (c : Nat) : Bool :=
  let C := (wdOf P ds ns K).ca c
  (PySem.W.plainGet K C Str.empty && (PySem.W.hasDictIn K C && (PySem.W.plainOver K C && He.eqO (PySem.W.findIn K (.ref C) "__setattr__") (some (some (.builtin "object.__setattr__")))))) &&
  (PySem.W.keepIn K (.ref C) && (He.eqO (PySem.W.findIn K (.ref C) "__class__") (some (some (.builtin "object.__class__"))) && (He.eqO (PySem.W.specialIn K (.builtin "object.__class__") "__get__") (some (some (.builtin "getset_descriptor.__get__"))) &&
    (decide (PySem.W.takesIn K (.builtin "object.__class__") = some true) && (decide (PySem.W.mroIn K C (.type "object") = some true) && P.flds.all fun f => He.eqO (PySem.W.findIn K (.ref C) (nmOf ns f)) (some none))))))
def mkB (c f : Nat) : Bool :=
  let C := (wdOf P ds ns K).ca c
  let F := (wdOf P ds ns K).fa f
  PySem.W.makesIn K C && (He.eqO (PySem.W.findIn K (.ref C) "__init__") (some (some (.ref F))) && (PySem.W.isFn K (.ref F) && PySem.W.keepIn K (.ref C)))
def eqB (c f : Nat) : Bool :=
  let C := (wdOf P ds ns K).ca c
  let F := (wdOf P ds ns K).fa f
  ordC P c && (He.eqO (PySem.W.findIn K (.ref C) "__eq__") (some (some (.ref F))) && (He.eqO (PySem.W.findIn K (.ref C) "__ne__") (some (some (.builtin "object.__ne__"))) && (PySem.W.isFn K (.ref F) && ((decide (PySem.W.subIn K (.type "tuple") (.ref C) = some false) && decide (PySem.W.subIn K (.type "NoneType") (.ref C) = some false)) && (decide (PySem.W.mroIn K C (.type "object") = some true) &&
    ((match P.fns[f]? with
    | some fd => decide (fd.np = 2)
    | none => false) && (match P.cls[c]? with
    | some k => k.sups.all fun c' => decide (c = c') || decide (PySem.W.subIn K (.ref ((wdOf P ds ns K).ca c')) (.ref C) = some false)
    | none => false)))))))
def mthB (c : Nat) (ms : List (Nat × Nat)) : Bool := ms.all fun q =>
  let C := (wdOf P ds ns K).ca c
  let F := (wdOf P ds ns K).fa q.2
  He.eqO (PySem.W.findIn K (.ref C) (nmOf ns q.1)) (some (some (.ref F))) && (PySem.W.isFn K (.ref F) && PySem.W.keepIn K (.ref F))
def ordCs : List Nat := (List.range P.cls.length).filter (ordC P)
def tys0 : List Ty := [.none, .bool, .int, .str, .tuple, .list, .dict] ++ (ordCs P).map .cls
def tys1 : List Ty := [.bool, .int, .str, .tuple, .list] ++ (ordCs P).map .cls
def ex : Bool :=
  ((P.fns.zipIdx.all fun q => !q.1.top || atN K q.1.name (some (.ref ((wdOf P ds ns K).fa q.2)))) && (P.cls.zipIdx.all fun q => atN K q.1.name (some (.ref ((wdOf P ds ns K).ca q.2))))) &&
  ((bltNames.all fun x => atN K x none) && ((P.consts.zip P.cnm).all fun q => match PySem.W.nsIn K mainGlobals q.2 with
    | some (some u) => cB K q.1 u
    | _ => false)) &&
  (((ordCs P).all (clsB P ds ns K)) && (P.cls.zipIdx.all fun q => (match q.1.init with
    | some f => mkB P ds ns K q.2 f
    | none => true) && (match lookN 0 q.1.meths with
    | some f => eqB P ds ns K q.2 f
    | none => true))) &&
  (P.cls.zipIdx.all fun q => !ordC P q.2 || mthB P ds ns K q.2 q.1.meths) &&
  ((tys0 P).all fun t => (tys1 P).all fun u => decide (PySem.W.kitOne K (tyVal (wdOf P ds ns K) t) (tyVal (wdOf P ds ns K) u) = some (tyIs P t u)))
/-- what stands written of an error class with an __init__ -/
def oexB (C : Addr) : Bool := match K.lookup C with
  | some ⟨.type "type", _, .cls cd, sl⟩ => (match cd.mro, sl.toList with
    | .ref C' :: bm, [_, _, _, _, some (.builtin n), _] => (C' == C) && ((n == "ValueError.__new__") && (!cd.hasDel && (cd.hasDict && PySem.HandSPX.refsVE bm)))
    | _, _ => false)
  | _ => false
def excB (c : Nat) (cd : ClD) (fs : List Nat) : Bool :=
  let C := (wdOf P ds ns K).ca c
  (PySem.W.keepIn K (.ref C) && (decide (PySem.W.typeIn K (.ref C) = some (.type "type")) && (He.eqO (PySem.W.findIn K (.ref C) "__getattribute__") (some (some (.builtin "BaseException.__getattribute__"))) && He.eqO (PySem.W.findIn K (.ref C) "__getattr__") (some none)))) &&
  ((decide (PySem.W.subIn K (.ref C) (.type "BaseException") = some true) && (PySem.W.hasDictIn K C && (He.eqO (PySem.W.findIn K (.ref C) "__class__") (some (some (.builtin "object.__class__"))) && (He.eqO (PySem.W.specialIn K (.builtin "object.__class__") "__get__") (some (some (.builtin "getset_descriptor.__get__"))) &&
    (decide (PySem.W.takesIn K (.builtin "object.__class__") = some true) && decide (PySem.W.mroIn K C (.type "object") = some true)))))) &&
  ((match fs with
    | [] => PySem.W.excIn K C veB "ValueError.__new__"
    | [f] => oexB K C && (He.eqO (PySem.W.findIn K (.ref C) "__setattr__") (some (some (.builtin "object.__setattr__"))) && (match cd.xin with
      | some fi => He.eqO (PySem.W.findIn K (.ref C) "__init__") (some (some (.ref ((wdOf P ds ns K).fa fi)))) && decide (PySem.W.typeIn K (.ref ((wdOf P ds ns K).fa fi)) = some (.type "function"))
      | none => false))
    | _ => false) &&
  ((P.flds.all fun f => He.eqO (PySem.W.findIn K (.ref C) (nmOf ns f)) (some none)) &&
  (((List.range P.cls.length).all fun c' => !excC P c' || (decide (PySem.W.exmOne K (.ref C) (.ref ((wdOf P ds ns K).ca c')) = some (tyIs P (.cls c) (.cls c'))) && decide (PySem.W.kitOne K (.ref C) (.ref ((wdOf P ds ns K).ca c')) = some (tyIs P (.cls c) (.cls c'))))) &&
    decide (PySem.W.kitOne K (.ref C) (.type "ValueError") = some (tyIs P (.cls c) .valueError))))))
def exX : Bool := P.cls.zipIdx.all fun q => match q.1.exc with
  | some fs => excB P ds ns K q.2 q.1 fs
  | none => true
end
def tabB (K : PySem.W.Frag) (T : List (List Nat × D)) (a : Addr) : Bool := T.all fun p => match PySem.W.nsIn K a (Str' p.1) with
  | some (some u) => cB K p.2 u
  | _ => false
def tabsB (P : Prog) (K : PySem.W.Frag) : Bool := (P.tabs.zip P.tnm).all fun q => (match PySem.W.nsIn K mainGlobals q.2 with
  | some (some (.ref a)) => decide (a = He.ga K q.2)
  | _ => false) && tabB K q.1 (He.ga K q.2)
def tabsOf (P : Prog) : List He.Tab := (P.tabs.zip P.tnm).map fun q => (fun K => He.ga K q.2, q.1.map fun p => Str' p.1)
end RI
namespace Ir
open RI PySem
abbrev f0s0 : IS := (.asg (.fld (.var 0) 1) (.var 1))
def f0 : FnD := { name := "__init__", N := ["self", "part"], np := 2, keep := false, top := false, body := (.cons f0s0 .nil) }
abbrev f1s0 : IS := (.asg (.fld (.var 0) 2) (.var 1))
def f1 : FnD := { name := "__init__", N := ["self", "most"], np := 2, keep := false, top := false, body := (.cons f1s0 .nil) }
abbrev f2s0 : IS := (.asg (.fld (.var 0) 1) (.var 1))
def f2 : FnD := { name := "__init__", N := ["self", "part"], np := 2, keep := false, top := false, body := (.cons f2s0 .nil) }
abbrev f3s0 : IS := (.asg (.fld (.var 0) 1) (.var 1))
def f3 : FnD := { name := "__init__", N := ["self", "part"], np := 2, keep := false, top := false, body := (.cons f3s0 .nil) }
abbrev f4s0 : IS := (.asg (.fld (.var 0) 3) (.var 1))
def f4 : FnD := { name := "__init__", N := ["self", "line"], np := 2, keep := false, top := false, body := (.cons f4s0 .nil) }
abbrev f5s0 : IS := (.asg (.fld (.var 0) 4) (.var 1))
def f5 : FnD := { name := "__init__", N := ["self", "name"], np := 2, keep := false, top := false, body := (.cons f5s0 .nil) }
abbrev f6b0 : ISs := (.cons (.asg (.nm 1) (.bin .mod (.bi .int (.cons (.bin .add (.bin .add (.bin .mul (.var 1) (.int 48271)) (.bin .mod (.bi .int (.cons (.var 2) .nil)) (.int 2147483629))) (.int 11)) .nil)) (.int 2147483647))) .nil)
abbrev f6c0 : IE := .lc (.bi .abs (.cons (.var 2) .nil)) [2] (.nm 2) (.seq (.sl (.var 0) .no (.yes (.int 63)))) (.yes (.cmp .ge (.bi .abs (.cons (.var 2) .nil)) (.bin .pow (.int 10) (.int 18))))
abbrev f6s0 : IS := (.asg (.nm 1) (.bin .add (.bin .add (.bin .mod (.bi .int (.cons (.bi .sum (.cons (.sl (.var 0) .no (.yes (.int 1))) .nil)) .nil)) (.int 1000003)) (.bi .len (.cons (.var 0) .nil))) (.int 1)))
abbrev f6s1 : IS := (.for_ (.nm 2) (.seq (.sl (.var 0) .no (.yes (.int 63)))) f6b0)
abbrev f6s2 : IS := (.ret (.lsw (.cons (.var 1) (.cons (.int 0) (.cons (.thaw (f6c0)) .nil)))))
def f6 : FnD := { name := "_law_pool", N := ["script", "seed", "cell"], np := 1, keep := true, top := true, body := (.cons f6s0 (.cons f6s1 (.cons f6s2 .nil))) }
abbrev f7s0 : IS := (.asg (.sub (.var 0) (.int 1)) (.bin .add (.ix (.var 0) (.int 1)) (.int 1)))
abbrev f7s1 : IS := (.asg (.nm 2) (.ix (.var 0) (.int 2)))
abbrev f7s2 : IS := (.ife (.cmp .gt (.bi .len (.cons (.var 2) .nil)) (.int 0)) (.cons (.asg (.nm 4) (.bin .mod (.bi .int (.cons (.ix (.var 2) (.int 0)) .nil)) (.var 1))) (.cons (.asg (.sub (.var 2) (.int 0)) (.bin .fdiv (.bi .int (.cons (.ix (.var 2) (.int 0)) .nil)) (.var 1))) (.cons (.ife (.cmp .eq (.ix (.var 2) (.int 0)) (.int 0)) (.cons (.expr (.bm (.var 2) .pop (.cons (.int 0) .nil))) .nil) .nil) (.cons (.ret (.var 4)) .nil)))) .nil)
abbrev f7s3 : IS := (.asg (.nm 3) (.bin .mod (.bi .int (.cons (.bin .mul (.bin .add (.ix (.var 0) (.int 0)) (.bin .mul (.int 7919) (.ix (.var 0) (.int 1)))) (.int 48271)) .nil)) (.int 2147483647)))
abbrev f7s4 : IS := (.asg (.nm 3) (.bin .mod (.bi .int (.cons (.bin .mul (.var 3) (.bin .add (.bin .fdiv (.var 3) (.int 1009)) (.int 69621))) .nil)) (.int 2147483647)))
abbrev f7s5 : IS := (.asg (.nm 3) (.bin .mod (.bi .int (.cons (.bin .mul (.var 3) (.bin .add (.bin .fdiv (.var 3) (.int 2003)) (.int 40692))) .nil)) (.int 2147483399)))
abbrev f7s6 : IS := (.ret (.bin .mod (.bi .int (.cons (.bin .fdiv (.var 3) (.int 16)) .nil)) (.var 1)))
def f7 : FnD := { name := "_law_draw", N := ["pool", "many", "cells", "mixed", "digit"], np := 2, keep := false, top := true, body := (.cons f7s0 (.cons f7s1 (.cons f7s2 (.cons f7s3 (.cons f7s4 (.cons f7s5 (.cons f7s6 .nil))))))) }
abbrev f8b0 : ISs := (.cons (.asg (.nm 0) (.lst (.cons (.var 0) .nil))) .nil)
abbrev f8s0 : IS := (.asg (.nm 0) (.lst (.cons .non .nil)))
abbrev f8s1 : IS := (.for_ (.nm 1) (.rng (.int 35)) f8b0)
abbrev f8s2 : IS := (.ret (.var 0))
def f8 : FnD := { name := "_law_deep", N := ["thing", "turn"], np := 0, keep := false, top := true, body := (.cons f8s0 (.cons f8s1 (.cons f8s2 .nil))) }
abbrev f9s0 : IS := (.ife (.cmp .eq (.var 0) (.int 0)) (.cons (.ret (.tup (.cons (.fle (.mkx 1 (.cons (.var 1) .nil)) 1) (.cons (.mkx 1 (.cons (.var 1) .nil)) .nil)))) .nil) .nil)
abbrev f9s1 : IS := (.ife (.cmp .eq (.var 0) (.int 1)) (.cons (.ret (.tup (.cons (.fle (.mkx 14 (.cons (.var 1) .nil)) 1) (.cons (.mkx 14 (.cons (.var 1) .nil)) .nil)))) .nil) .nil)
abbrev f9s2 : IS := (.ife (.cmp .eq (.var 0) (.int 2)) (.cons (.ret (.tup (.cons (.fle (.mkx 15 (.cons (.var 1) .nil)) 1) (.cons (.mkx 15 (.cons (.var 1) .nil)) .nil)))) .nil) .nil)
abbrev f9s3 : IS := (.ife (.cmp .eq (.var 0) (.int 3)) (.cons (.ret (.tup (.cons (.fle (.mkx 12 (.cons (.var 1) .nil)) 2) (.cons (.mkx 12 (.cons (.var 1) .nil)) .nil)))) .nil) .nil)
abbrev f9s4 : IS := (.ife (.cmp .eq (.var 0) (.int 4)) (.cons (.ret (.tup (.cons (.fle (.mkx 25 (.cons (.var 1) .nil)) 3) (.cons (.mkx 25 (.cons (.var 1) .nil)) .nil)))) .nil) .nil)
abbrev f9s5 : IS := (.ret (.tup (.cons (.fle (.mkx 27 (.cons (.var 1) .nil)) 4) (.cons (.mkx 27 (.cons (.var 1) .nil)) .nil))))
def f9 : FnD := { name := "_law_made", N := ["which", "thing"], np := 2, keep := false, top := true, body := (.cons f9s0 (.cons f9s1 (.cons f9s2 (.cons f9s3 (.cons f9s4 (.cons f9s5 .nil)))))) }
abbrev f10s0 : IS := (.asg (.nm 0) (.lst (.cons (.mkx 2 .nil) (.cons (.mkx 3 .nil) (.cons (.mkx 4 .nil) (.cons (.mkx 5 .nil) (.cons (.mkx 6 .nil) (.cons (.mkx 7 .nil) (.cons (.mkx 8 .nil) (.cons (.mkx 9 .nil) (.cons (.mkx 10 .nil) .nil)))))))))))
abbrev f10s1 : IS := (.asg (.nm 0) (.bin .add (.var 0) (.lst (.cons (.mkx 11 .nil) (.cons (.mkx 13 .nil) (.cons (.mkx 16 .nil) (.cons (.mkx 17 .nil) (.cons (.mkx 18 .nil) (.cons (.mkx 19 .nil) (.cons (.mkx 20 .nil) (.cons (.mkx 21 .nil) .nil)))))))))))
abbrev f10s2 : IS := (.ret (.bin .add (.var 0) (.lst (.cons (.mkx 22 .nil) (.cons (.mkx 23 .nil) (.cons (.mkx 24 .nil) (.cons (.mkx 26 .nil) (.cons (.mkx 28 .nil) .nil))))))))
def f10 : FnD := { name := "_law_plain_ones", N := ["found"], np := 0, keep := false, top := true, body := (.cons f10s0 (.cons f10s1 (.cons f10s2 .nil))) }
abbrev f11s0 : IS := (.asg (.nm 1) (.lst (.cons (.ise (.var 0) (.cls 1)) (.cons (.ise (.var 0) (.cls 14)) (.cons (.ise (.var 0) (.cls 15)) (.cons (.ise (.var 0) (.cls 12)) .nil))))))
abbrev f11s1 : IS := (.asg (.nm 1) (.bin .add (.var 1) (.lst (.cons (.ise (.var 0) (.cls 25)) (.cons (.ise (.var 0) (.cls 27)) (.cons (.ise (.var 0) (.cls 2)) .nil))))))
abbrev f11s2 : IS := (.asg (.nm 1) (.bin .add (.var 1) (.lst (.cons (.ise (.var 0) (.cls 3)) (.cons (.ise (.var 0) (.cls 4)) (.cons (.ise (.var 0) (.cls 5)) .nil))))))
abbrev f11s3 : IS := (.asg (.nm 1) (.bin .add (.var 1) (.lst (.cons (.ise (.var 0) (.cls 6)) (.cons (.ise (.var 0) (.cls 7)) (.cons (.ise (.var 0) (.cls 8)) .nil))))))
abbrev f11s4 : IS := (.asg (.nm 1) (.bin .add (.var 1) (.lst (.cons (.ise (.var 0) (.cls 9)) (.cons (.ise (.var 0) (.cls 10)) (.cons (.ise (.var 0) (.cls 11)) .nil))))))
abbrev f11s5 : IS := (.asg (.nm 1) (.bin .add (.var 1) (.lst (.cons (.ise (.var 0) (.cls 13)) (.cons (.ise (.var 0) (.cls 16)) (.cons (.ise (.var 0) (.cls 17)) .nil))))))
abbrev f11s6 : IS := (.asg (.nm 1) (.bin .add (.var 1) (.lst (.cons (.ise (.var 0) (.cls 18)) (.cons (.ise (.var 0) (.cls 19)) (.cons (.ise (.var 0) (.cls 20)) .nil))))))
abbrev f11s7 : IS := (.asg (.nm 1) (.bin .add (.var 1) (.lst (.cons (.ise (.var 0) (.cls 21)) (.cons (.ise (.var 0) (.cls 22)) (.cons (.ise (.var 0) (.cls 23)) .nil))))))
abbrev f11s8 : IS := (.ret (.bin .add (.var 1) (.lst (.cons (.ise (.var 0) (.cls 24)) (.cons (.ise (.var 0) (.cls 26)) (.cons (.ise (.var 0) (.cls 28)) .nil))))))
def f11 : FnD := { name := "_law_kinds", N := ["error", "found"], np := 1, keep := false, top := true, body := (.cons f11s0 (.cons f11s1 (.cons f11s2 (.cons f11s3 (.cons f11s4 (.cons f11s5 (.cons f11s6 (.cons f11s7 (.cons f11s8 .nil))))))))) }
abbrev f12b0 : ISs := (.cons (.asg (.nm 6) (.ix (.var 2) (.call 7 (.cons (.var 1) (.cons (.int 11) .nil))))) (.cons (.asg (.tup (.cons (.nm 7) (.cons (.nm 5) .nil))) (.call 9 (.cons (.var 4) (.cons (.var 6) .nil)))) (.cons (.ife (.cmp .ne (.rep (.var 7)) (.rep (.var 6))) (.cons (.ret (.bl false)) .nil) .nil) (.cons (.expr (.bm (.var 3) .append (.cons (.var 5) .nil))) .nil))))
abbrev f12b1 : ISs := (.cons (.ife (.or (.cons (.not (.ise (.var 5) (.cls 0))) (.cons (.not (.ise (.var 5) .valueError)) (.cons (.cmp .ne (.bm (.call 11 (.cons (.var 5) .nil)) .count (.cons (.bl true) .nil)) (.int 1)) .nil)))) (.cons (.ret (.bl false)) .nil) .nil) .nil)
abbrev f12c0 : IE := .lc (.bm (.call 11 (.cons (.var 5) .nil)) .index (.cons (.bl true) .nil)) [5] (.nm 5) (.seq (.var 3)) .no
abbrev f12s0 : IS := (.asg (.nm 1) (.call 6 (.cons (.var 0) .nil)))
abbrev f12s1 : IS := (.asg (.nm 2) (.lst (.cons .non (.cons (.int 0) (.cons (.bl true) (.cons (.str [97]) (.cons (.tup .nil) (.cons (.tup (.cons (.str [114, 111, 119]) (.cons (.int 3) .nil))) (.cons (.lst (.cons (.int 1) .nil)) (.cons .dic0 (.cons (.call 8 .nil) (.cons (.neg (.int 7)) (.cons (.bin .pow (.int 10) (.int 29)) .nil)))))))))))))
abbrev f12s2 : IS := (.asg (.nm 3) (.thaw (.lst .nil)))
abbrev f12s3 : IS := (.for_ (.nm 4) (.rng (.int 6)) f12b0)
abbrev f12s4 : IS := (.asg (.nm 3) (.thaw (.bin .add (.var 3) (.call 10 .nil))))
abbrev f12s5 : IS := (.for_ (.nm 5) (.seq (.var 3)) f12b1)
abbrev f12s6 : IS := (.ret (.cmp .eq (.setop .len f12c0) (.bi .len (.cons (.var 3) .nil))))
def f12 : FnD := { name := "law", N := ["script", "pool", "things", "errors", "which", "error", "thing", "told"], np := 1, keep := false, top := true, body := (.cons f12s0 (.cons f12s1 (.cons f12s2 (.cons f12s3 (.cons f12s4 (.cons f12s5 (.cons f12s6 .nil))))))) }
def P : Prog := { fns := [f0, f1, f2, f3, f4, f5, f6, f7, f8, f9, f10, f11, f12], cls := [{ name := "CellError", init := none, meths := [], frozen := false, sups := [0], exc := some [], xin := none }, { name := "BadWish", init := none, meths := [], frozen := false, sups := [1, 0], exc := some [1], xin := some 0 }, { name := "NoProgram", init := none, meths := [], frozen := false, sups := [2, 0], exc := some [], xin := none }, { name := "NoContents", init := none, meths := [], frozen := false, sups := [3, 0], exc := some [], xin := none }, { name := "NoOrder", init := none, meths := [], frozen := false, sups := [4, 0], exc := some [], xin := none }, { name := "NoMoment", init := none, meths := [], frozen := false, sups := [5, 0], exc := some [], xin := none }, { name := "NoPrices", init := none, meths := [], frozen := false, sups := [6, 0], exc := some [], xin := none }, { name := "NoNumber", init := none, meths := [], frozen := false, sups := [7, 0], exc := some [], xin := none }, { name := "NoTimetable", init := none, meths := [], frozen := false, sups := [8, 0], exc := some [], xin := none }, { name := "NotOnto", init := none, meths := [], frozen := false, sups := [9, 0], exc := some [], xin := none }, { name := "NotAlike", init := none, meths := [], frozen := false, sups := [10, 0], exc := some [], xin := none }, { name := "NotWhole", init := none, meths := [], frozen := false, sups := [11, 0], exc := some [], xin := none }, { name := "TooMany", init := none, meths := [], frozen := false, sups := [12, 0], exc := some [2], xin := some 1 }, { name := "NoSources", init := none, meths := [], frozen := false, sups := [13, 0], exc := some [], xin := none }, { name := "BadTable", init := none, meths := [], frozen := false, sups := [14, 0], exc := some [1], xin := some 2 }, { name := "BadCode", init := none, meths := [], frozen := false, sups := [15, 0], exc := some [1], xin := some 3 }, { name := "NoRow", init := none, meths := [], frozen := false, sups := [16, 0], exc := some [], xin := none }, { name := "NoCompiled", init := none, meths := [], frozen := false, sups := [17, 0], exc := some [], xin := none }, { name := "NotRunning", init := none, meths := [], frozen := false, sups := [18, 0], exc := some [], xin := none }, { name := "NothingDone", init := none, meths := [], frozen := false, sups := [19, 0], exc := some [], xin := none }, { name := "NoCell", init := none, meths := [], frozen := false, sups := [20, 0], exc := some [], xin := none }, { name := "NoItem", init := none, meths := [], frozen := false, sups := [21, 0], exc := some [], xin := none }, { name := "IsLocked", init := none, meths := [], frozen := false, sups := [22, 0], exc := some [], xin := none }, { name := "NotLocked", init := none, meths := [], frozen := false, sups := [23, 0], exc := some [], xin := none }, { name := "NoWay", init := none, meths := [], frozen := false, sups := [24, 0], exc := some [], xin := none }, { name := "BadText", init := none, meths := [], frozen := false, sups := [25, 0], exc := some [3], xin := some 4 }, { name := "NoLine", init := none, meths := [], frozen := false, sups := [26, 0], exc := some [], xin := none }, { name := "NoName", init := none, meths := [], frozen := false, sups := [27, 0], exc := some [4], xin := some 5 }, { name := "NoRunner", init := none, meths := [], frozen := false, sups := [28, 0], exc := some [], xin := none }], consts := [], cnm := [], flds := [1, 2, 3, 4], tabs := [], tnm := [] }
def names : List Str := ["__eq__", "part", "most", "line", "name"]
def lawId : Nat := 12
end Ir
namespace Dv
open RI PySem PySem.Spec PyProof.Rows L2
def top (i : Nat) : Stmt := PySem.Challenge.pw_oncetwice_k00_errors_of_the_package.main.body.getD i (.Pass ⟨0, 0, 0, 0⟩)
def d0 : He.DefD := ⟨("BadWish", some "__init__"), "__init__", "BadWish.__init__", defArgs (inClass (top 2) 0), defBody (inClass (top 2) 0), defScope (inClass (top 2) 0), [], []⟩
def d1 : He.DefD := ⟨("TooMany", some "__init__"), "__init__", "TooMany.__init__", defArgs (inClass (top 13) 0), defBody (inClass (top 13) 0), defScope (inClass (top 13) 0), [], []⟩
def d2 : He.DefD := ⟨("BadTable", some "__init__"), "__init__", "BadTable.__init__", defArgs (inClass (top 15) 0), defBody (inClass (top 15) 0), defScope (inClass (top 15) 0), [], []⟩
def d3 : He.DefD := ⟨("BadCode", some "__init__"), "__init__", "BadCode.__init__", defArgs (inClass (top 16) 0), defBody (inClass (top 16) 0), defScope (inClass (top 16) 0), [], []⟩
def d4 : He.DefD := ⟨("BadText", some "__init__"), "__init__", "BadText.__init__", defArgs (inClass (top 26) 0), defBody (inClass (top 26) 0), defScope (inClass (top 26) 0), [], []⟩
def d5 : He.DefD := ⟨("NoName", some "__init__"), "__init__", "NoName.__init__", defArgs (inClass (top 28) 0), defBody (inClass (top 28) 0), defScope (inClass (top 28) 0), [], []⟩
def d6 : He.DefD := ⟨("_law_pool", none), "_law_pool", "_law_pool", defArgs (top 31), defBody (top 31), defScope (top 31), [], []⟩
def d7 : He.DefD := ⟨("_law_draw", none), "_law_draw", "_law_draw", defArgs (top 32), defBody (top 32), defScope (top 32), [], []⟩
def d8 : He.DefD := ⟨("_law_deep", none), "_law_deep", "_law_deep", defArgs (top 33), defBody (top 33), defScope (top 33), [], []⟩
def d9 : He.DefD := ⟨("_law_made", none), "_law_made", "_law_made", defArgs (top 34), defBody (top 34), defScope (top 34), [], []⟩
def d10 : He.DefD := ⟨("_law_plain_ones", none), "_law_plain_ones", "_law_plain_ones", defArgs (top 35), defBody (top 35), defScope (top 35), [], []⟩
def d11 : He.DefD := ⟨("_law_kinds", none), "_law_kinds", "_law_kinds", defArgs (top 36), defBody (top 36), defScope (top 36), [], []⟩
def d12 : He.DefD := ⟨("law", none), "law", "law", defArgs (top 37), defBody (top 37), defScope (top 37), [], []⟩
def fn : List He.DefD := [d0, d1, d2, d3, d4, d5, d6, d7, d8, d9, d10, d11, d12]
end Dv
namespace Hd
open PySem PySem.Spec PyProof.Rows L2 RI
abbrev R : PySem.W.OpenRow := PySem.W.OpenLaw.row PySem.Challenge.rw_oncetwice_k00_errors_of_the_package
def exb (K : PySem.W.Frag) : Bool := RI.ex Ir.P Dv.fn Ir.names K && RI.exX Ir.P Dv.fn Ir.names K && RI.tabsB Ir.P K
abbrev hk : PySem.W.Hook := He.hookX 4 [] Dv.fn (RI.tabsOf Ir.P) [] exb
def ob (s : PySem.W.SharedT) : He.AlX := He.obsX 4 [] Dv.fn (RI.tabsOf Ir.P) [] exb (HandSHeadRun.getT s)
theorem ob_eq (s : PySem.W.SharedT) : ob s = hk.obs s.abs := He.obsX_eq (HandSHeadRun.getT_eq s)
def names : List Str := (["CellError", "BadWish", "NoProgram", "NoContents", "NoOrder", "NoMoment", "NoPrices", "NoNumber", "NoTimetable", "NotOnto", "NotAlike", "NotWhole", "TooMany", "NoSources", "BadTable", "BadCode", "NoRow", "NoCompiled", "NotRunning", "NothingDone", "NoCell", "NoItem", "IsLocked", "NotLocked", "NoWay", "BadText", "NoLine", "NoName", "NoRunner", "_law_pool"] : List Str) ++ (["_law_draw", "_law_deep", "_law_made", "_law_plain_ones", "_law_kinds"] : List Str)
noncomputable abbrev eF (w : World) (os : OsState) := HandSHeadRun.endF (HandSHeadRun.stepQ (HandSHeadRun.denQ HandSHeadRun.tabQ) R.prog w) 20000 R.prog w os
theorem opt4 {σ α β γ δ : Type} {o : Option σ} {f : σ → α} {g : σ → β} {h : σ → γ × δ} {a : α} {b : β} {c : γ} {d : δ} (h1 : o.map f = some a) (h2 : o.map g = some b) (h3 : o.map (fun s => (h s).1) = some c) (h4 : o.map (fun s => (h s).2) = some d) :
    o.map (fun s => (f s, g s, h s)) = some (a, b, (c, d)) := by
  cases o with
  | none => cases h1
  | some s =>
    simp only [Option.map_some, Option.some.injEq] at *
    rw [h1, h2, ← h3, ← h4]
theorem runA (w : World) (os : OsState) : (eF w os).map (fun s => HandSHeadRun.looksF R.prog (PySem.W.boot_heap w.params) s.abs) = some (true) := by
  kernel_rfl
theorem runB (w : World) (os : OsState) : (eF w os).map (fun s => HandSHeadRun.seenQ (PySem.W.view R.prog [37]) names (PySem.importedModules R.prog.main.body) (fun s => PySem.W.xlAt (PySem.W.view R.prog [37]) [] s && PySem.W.recOk R.records s) s.abs) = some (PySem.W.openGood (PySem.W.view R.prog [37]) names) := by
  kernel_rfl
theorem runC (w : World) (os : OsState) : (eF w os).map (fun s => (ob s).1) = some ((hk.val w).1) := by
  kernel_rfl
theorem runD (w : World) (os : OsState) : (eF w os).map (fun s => (ob s).2) = some ((hk.val w).2) := by
  kernel_rfl
theorem run (w : World) : HandSHeadRun.RunEq R (PySem.W.view R.prog [37]) hk ob 20000 names w := by
  intro os
  exact opt4 (runA w os) (runB w os) (runC w os) (runD w os)
end Hd
/-! RTD: dicts whose keys are tuples of ints, as an object of one's own (the keys' tuples may be constants). -/
namespace L2
open PySem PySem.Spec PyProof.Rows
def hTup (ks : List Int) : Int := reduceHash (Builtin.Tuple.tupleHashOf (ks.map hashInt))
def entI (x : List Int × Addr × Value) : DictEntry := ⟨hTup x.1, .ref x.2.1, x.2.2⟩
theorem entI_eq (P : Program) (w : World) : entryOfKey (tupleKind (intKind P w)) = entI := rfl
def PrI (p : List Int × Addr × V) (q : List Int × Addr × Value) : Prop := p.1 = q.1 ∧ p.2.1 = q.2.1 ∧ RelV p.2.2 q.2.2
/-- the dict at a holds these -/
def DTr (a : Addr) (L : List (List Int × Addr × V)) (h : Heap) : Prop :=
  (a == sysModules) = false ∧ L.length ≤ sizeLine ∧ ∃ xs, Paired PrI L xs ∧ (∃ o es ep, h.get? a = some o ∧ o.ExactDict ∧ o.data = .dict es ep ∧ es.toList = xs.map entI) ∧ (xs.map (·.1)).Nodup
def DTO (a : Addr) (L : List (List Int × Addr × V)) : HO := .ext (DTr a L)
theorem dto_ok {P : Program} {w : World} {H : Hp} {h : Heap} {a : Addr} {L : List (List Int × Addr × V)} (e : DTr a L h) : ObjOk P w H h a (DTO a L) := by
  refine ⟨e, ?_, fun h1 h2 e1 k => ?_⟩
  · obtain ⟨_, _, xs, _, ⟨o, es, ep, ho, _⟩, _⟩ := e
    exact ⟨o, ho⟩
  · obtain ⟨m, l, xs, p, ⟨o, es, ep, ho, r⟩, nd⟩ := e1
    exact ⟨m, l, xs, p, ⟨o, es, ep, k o ho, r⟩, nd⟩
/-- its keys stand -/
def KeysOk (K : PySem.W.Frag) (H : Hp) (L : List (List Int × Addr × V)) : Prop := ∀ p ∈ L, SqT K H p.2.1 (p.1.map V.int)
def valT (L : List (List Int × Addr × V)) (ks : List Int) : Option V := (L.find? fun p => decide (p.1 = ks)).map (·.2.2)
def putTD (L : List (List Int × Addr × V)) (ks : List Int) (b : Addr) (v : V) : List (List Int × Addr × V) :=
  if (valT L ks).isSome = true then L.map (fun p => if p.1 = ks then (p.1, p.2.1, v) else p) else L ++ [(ks, b, v)]
theorem pr_len : ∀ {L : List (List Int × Addr × V)} {xs : List (List Int × Addr × Value)}, Paired PrI L xs → L.length = xs.length
  | _, _, .nil => rfl
  | _, _, .cons _ t => by simp [pr_len t]
theorem pr_at {ks : List Int} : ∀ {L : List (List Int × Addr × V)} {xs : List (List Int × Addr × Value)}, Paired PrI L xs → RelO (valT L ks) ((atKey xs ks).map (·.2))
  | _, _, .nil => True.intro
  | _, _, .cons (a := p) (b := q) (l₁ := L) (l₂ := xs) h t => by
    obtain ⟨h1, h2, h3⟩ := h
    have ih := pr_at (ks := ks) t
    unfold valT atKey at *
    by_cases e : p.1 = ks
    · have e' : q.1 = ks := h1 ▸ e
      rw [List.find?_cons_of_pos (by simpa using e), List.find?_cons_of_pos (by simpa using e')]
      exact h3
    · have e' : ¬ q.1 = ks := h1 ▸ e
      rw [List.find?_cons_of_neg (by simpa using e), List.find?_cons_of_neg (by simpa using e')]
      exact ih
theorem pr_map {ks : List Int} {v : V} {r : Value} (rv : RelV v r) : ∀ {L : List (List Int × Addr × V)} {xs : List (List Int × Addr × Value)}, Paired PrI L xs → Paired PrI (L.map fun p => if p.1 = ks then (p.1, p.2.1, v) else p) (xs.map (putAt ks r))
  | _, _, .nil => .nil
  | _, _, .cons (a := p) (b := q) h t => by
    refine .cons ?_ (pr_map rv t)
    obtain ⟨h1, h2, h3⟩ := h
    unfold putAt
    dsimp only
    by_cases e : p.1 = ks
    · have e' : q.1 = ks := h1 ▸ e
      rw [if_pos e, if_pos e']
      exact ⟨h1, h2, rv⟩
    · have e' : ¬ q.1 = ks := h1 ▸ e
      rw [if_neg e, if_neg e']
      exact ⟨h1, h2, h3⟩
theorem pr_put {ks : List Int} {b : Addr} {v : V} {r : Value} (rv : RelV v r) {L : List (List Int × Addr × V)} {xs : List (List Int × Addr × Value)} (h : Paired PrI L xs) : Paired PrI (putTD L ks b v) (storedH xs ks b r) := by
  have q := pr_at (ks := ks) h
  unfold putTD storedH
  have : (valT L ks).isSome = (atKey xs ks).isSome := by
    cases h1 : valT L ks <;> cases h2 : atKey xs ks <;> rw [h1, h2] at q <;> first | rfl | exact q.elim
  rw [this]
  split
  · exact pr_map rv h
  · exact h.snoc ⟨rfl, rfl, rv⟩
theorem putTD_len {L : List (List Int × Addr × V)} {ks : List Int} {b : Addr} {v : V} : (putTD L ks b v).length ≤ L.length + 1 := by
  unfold putTD
  split <;> simp
theorem intsItems {P : Program} {w : World} : ∀ {ks : List Int} {us : List Value}, Vals (ks.map V.int) us → ItemsAre (intKind P w) ks us
  | [], _, h => by cases h; exact .nil
  | k :: ks, _, h => by
    cases h with
    | cons r t =>
      obtain ⟨tk, rfl⟩ := (show ∃ t, _ = Value.int k t from r)
      exact .cons (intKind_is P w k tk) (intsItems t)
section
variable {X : Cx} {pins : List (Addr × Obj)} {σ : St} {H : Hp} {s : Shared} {a b : Addr} {v : V} {u r : Value} {o : Option V} {A : Around} {E : Value → Shared → Prop} {L : List (List Int × Addr × V)} {ks : List Int}
theorem keyI_of (I : Inv X pins σ H s) (h : SqT X.K H b (ks.map V.int)) : (tupleKind (intKind X.prog X.w)).is s.heap ks b := by
  obtain ⟨its, rv, ⟨o, h1, h2, n, h3⟩, _⟩ := I.tuple h
  exact ⟨o, its.toArray, n, h1, h2, h3, by simpa using intsItems rv⟩
theorem dto_full (I : Inv X pins σ H s) (e : H a = some (DTO a L)) (hk : KeysOk X.K H L) : (a == sysModules) = false ∧ L.length ≤ sizeLine ∧ ∃ xs, Paired PrI L xs ∧ s.heap.DictOfH (tupleKind (intKind X.prog X.w)) a xs := by
  obtain ⟨⟨m, l, xs, p, ⟨o, es, ep, ho, hx, hd, he⟩, nd⟩, _, _⟩ := (show ObjOk X.prog X.w H s.heap a (DTO a L) from I.hok a _ e)
  refine ⟨m, l, xs, p, o, es, ep, ho, hx, hd, he, ?_, nd⟩
  have all : ∀ {L : List (List Int × Addr × V)} {xs : List (List Int × Addr × Value)}, Paired PrI L xs → KeysOk X.K H L → ∀ x ∈ xs, (tupleKind (intKind X.prog X.w)).is s.heap x.1 x.2.1 := by
    intro L xs q
    induction q with
    | nil => intro _ x hx; exact nomatch hx
    | @cons p q ps qs hq t ih =>
      intro hk x hx
      rcases List.mem_cons.mp hx with rfl | hx
      · have := keyI_of I (hk p (by simp))
        rw [hq.1, hq.2.1] at this
        exact this
      · exact ih (fun y hy => hk y (by simp [hy])) x hx
  exact all p hk
theorem d_getT {Q : Value → Shared → Prop} (hu : A.units + 1 < cLine) (I : Inv X pins σ H s) (e : H a = some (DTO a L)) (hk : KeysOk X.K H L) (eb : SqT X.K H b (ks.map V.int)) (l : valT L ks = some v) (h : ∀ w' s', Inv X pins σ H s' → RelV v w' → Q w' s') :
    wpAny (model X.prog X.w) A (getItem (.ref a) (.ref b)) Q E s := by
  obtain ⟨_, _, xs, rel, dd⟩ := dto_full I e hk
  obtain ⟨w', hw, rw'⟩ := RelO.some_of (v := v) (o := (atKey xs ks).map (·.2)) (by rw [← l]; exact pr_at rel)
  obtain ⟨p, hp, hp2⟩ := Option.map_eq_some_iff.mp hw
  refine wpAny_getItem_heap (tupleKind_room_in1 hu) (keyI_of I eb) dd hp ?_
  rw [hp2]
  exact h w' _ (I.tok _) rw'
theorem d_inT {Q : Value → Shared → Prop} (hu : A.units + 1 < cLine) (I : Inv X pins σ H s) (e : H a = some (DTO a L)) (hk : KeysOk X.K H L) (eb : SqT X.K H b (ks.map V.int)) (h : ∀ s', Inv X pins σ H s' → Q (.bool (valT L ks).isSome) s') :
    wpAny (model X.prog X.w) A (compareOp .In (.ref b) (.ref a)) Q E s := by
  obtain ⟨hd, _, xs, rel, dd⟩ := dto_full I e hk
  refine wpAny_in_heap (tupleKind_room_in1 hu) (keyI_of I eb) hd dd ?_
  have q := (pr_at (ks := ks) rel).isSome_eq
  rw [Option.isSome_map] at q
  rw [← q]
  exact h _ (I.tok _)
theorem d_ninT {Q : Value → Shared → Prop} (hu : A.units + 1 < cLine) (I : Inv X pins σ H s) (e : H a = some (DTO a L)) (hk : KeysOk X.K H L) (eb : SqT X.K H b (ks.map V.int)) (h : ∀ s', Inv X pins σ H s' → Q (.bool (!(valT L ks).isSome)) s') :
    wpAny (model X.prog X.w) A (compareOp .NotIn (.ref b) (.ref a)) Q E s := by
  obtain ⟨hd, _, xs, rel, dd⟩ := dto_full I e hk
  refine wpAny_notIn_heap (tupleKind_room_in1 hu) (keyI_of I eb) hd dd ?_
  have q := (pr_at (ks := ks) rel).isSome_eq
  rw [Option.isSome_map] at q
  rw [← q]
  exact h _ (I.tok _)
theorem d_setT {Q : Unit → Shared → Prop} (hu : A.units + 1 < cLine) (I : Inv X pins σ H s) (e : H a = some (DTO a L)) (hk : KeysOk X.K H L) (eb : SqT X.K H b (ks.map V.int)) (hl : L.length < sizeLine) (rv : RelV v r)
    (h : ∀ s', Inv X pins σ (upd H a (DTO a (putTD L ks b v))) s' → Q () s') : wpAny (model X.prog X.w) A (setItem (.ref a) (.ref b) r) Q E s := by
  obtain ⟨hd, z, xs, rel, dd⟩ := dto_full I e hk
  have hz : xs.length ≤ sizeLine := by rw [← pr_len rel]; exact z
  refine wpAny_setItem_heap (hsz := hz) (tupleKind_room_in1 hu) (keyI_of I eb) dd fun h' dd' hs => h _ ?_
  obtain ⟨q, es, ep, hq, h2, h3, h4, _, h5⟩ := dd'
  refine d_write I (by rw [e]; exact True.intro) hs ⟨q, hq⟩ (dto_ok ⟨hd, ?_, _, pr_put rv rel, ⟨q, es, ep, hq, h2, h3, h4⟩, h5⟩)
  have := putTD_len (L := L) (ks := ks) (b := b) (v := v)
  omega
theorem dto_type (I : Inv X pins σ H s) (e : H a = some (DTO a L)) : s.TypeIs (.ref a) "dict" := by
  obtain ⟨⟨m, l, xs, p, ⟨o, es, ep, ho, hx, hd, he⟩, nd⟩, _, _⟩ := (show ObjOk X.prog X.w H s.heap a (DTO a L) from I.hok a _ e)
  exact ⟨o, ho, hx.1⟩
/-- a dict with such keys asked: what it is, at which key -/
structure DAsk (K : PySem.W.Frag) (H : Hp) (x y : V) (a b : Addr) (L : List (List Int × Addr × V)) (ks : List Int) : Prop where
  x : x = .ref a
  y : y = .ref b
  h : H a = some (DTO a L)
  k : KeysOk K H L
  b : SqT K H b (ks.map V.int)
end
section
variable {X : Cx} {o i : Expr} {pos : Pos} {td ty : TE}
def tDGetI (K : PySem.W.Frag) (td ty : TE) : TE := fun σ H Q => td σ H fun x H1 => ty σ H1 fun y H2 => ∃ a b L ks v, DAsk K H2 x y a b L ks ∧ valT L ks = some v ∧ Q v H2
def tDInI (K : PySem.W.Frag) (ty td : TE) : TE := fun σ H Q => ty σ H fun y H1 => td σ H1 fun x H2 => ∃ a b L ks, DAsk K H2 x y a b L ks ∧ Q (.bl (valT L ks).isSome) H2
def tDNInI (K : PySem.W.Frag) (ty td : TE) : TE := fun σ H Q => ty σ H fun y H1 => td σ H1 fun x H2 => ∃ a b L ks, DAsk K H2 x y a b L ks ∧ Q (.bl (!(valT L ks).isSome)) H2
theorem pe_dgetI (hu : X.A.units + 1 < cLine) (ho : PE X o td) (hi : PE X i ty) (hs : NoSl i) : PE X (.Subscript o i pos) (tDGetI X.K td ty) := by
  refine ⟨fun pins s σ H Q I h => ?_⟩
  refine subD_of PySem.F.slot_dict_getitem.lookup hs (thn (ho.run pins s σ H _ I h) fun u s1 ⟨x, H1, I1, rx, q1⟩ => thn (hi.run pins s1 σ H1 _ I1 q1) fun iv s2 ⟨y, H2, I2, ry, a, b, L, ks, v, g, hv, q2⟩ => ?_)
  obtain ⟨rfl, rfl, e, hk, eb⟩ := g
  obtain rfl : u = Value.ref a := rx
  obtain rfl : iv = Value.ref b := ry
  exact ⟨dto_type I2 e, d_getT hu I2 e hk eb hv fun w' s3 I3 rw' => ⟨v, H2, I3, rw', q2⟩⟩
theorem pc_dinI (hu : X.A.units + 1 < cLine) (hi : PE X i ty) (ho : PE X o td) : PC X .In i o (tDInI X.K ty td) := by
  refine ⟨fun pins s σ H Q I h => ?_⟩
  refine thn (hi.run pins s σ H _ I h) fun iv s1 ⟨y, H1, I1, ry, q1⟩ => thn (ho.run pins s1 σ H1 _ I1 q1) fun u s2 ⟨x, H2, I2, rx, a, b, L, ks, g, q2⟩ => ?_
  obtain ⟨rfl, rfl, e, hk, eb⟩ := g
  obtain rfl : u = Value.ref a := rx
  obtain rfl : iv = Value.ref b := ry
  exact d_inT hu I2 e hk eb fun s3 I3 => ⟨.bl (valT L ks).isSome, H2, I3, rfl, q2⟩
theorem pc_dninI (hu : X.A.units + 1 < cLine) (hi : PE X i ty) (ho : PE X o td) : PC X .NotIn i o (tDNInI X.K ty td) := by
  refine ⟨fun pins s σ H Q I h => ?_⟩
  refine thn (hi.run pins s σ H _ I h) fun iv s1 ⟨y, H1, I1, ry, q1⟩ => thn (ho.run pins s1 σ H1 _ I1 q1) fun u s2 ⟨x, H2, I2, rx, a, b, L, ks, g, q2⟩ => ?_
  obtain ⟨rfl, rfl, e, hk, eb⟩ := g
  obtain rfl : u = Value.ref a := rx
  obtain rfl : iv = Value.ref b := ry
  exact d_ninT hu I2 e hk eb fun s3 I3 => ⟨.bl (!(valT L ks).isSome), H2, I3, rfl, q2⟩
/-- {} for such keys -/
def tDNewI : TE := fun _ H Q => ∀ p, H p = none → Q (.ref p) (upd H p (DTO p []))
theorem pe_dnewI : PE X (.Dict [] [] pos) tDNewI := ⟨fun pins s σ H Q I h =>
  wpAny_Dict_empty ⟨.ref s.heap.objs.size, _, I.laid (a := s.heap.objs.size) (o := DTO s.heap.objs.size []) (t' := s.toks) (fun _ _ q => Heap.get?_push_of_some _ q) (Nat.le_refl _)
    (dto_ok ⟨beq_eq_false_iff_ne.mpr (Ne.symm (Nat.ne_of_lt I.big)), Nat.zero_le _, [], .nil, ⟨_, #[], 0, Heap.get?_push_size _ rfl, ⟨rfl, rfl, rfl⟩, rfl, rfl⟩, List.nodup_nil⟩), rfl, h _ (I.hok.fresh (Nat.le_refl _))⟩⟩
end
end L2
/-! RTN: tuples of which it is known that they have no dict: so their methods can be asked. -/
namespace RI
open PySem PySem.Spec PyProof.Rows L2
/-- an error that is held: its class, its dict -/
def EV (a : Addr) (cls : Value) (d : Option Addr) : HO := .ext fun h => ∃ oe, h.get? a = some oe ∧ Zc cls d oe ∧ ∃ vs, oe.data = .fields vs
theorem ev_ok {P : Program} {w : World} {H : Hp} {h : Heap} {a : Addr} {cls : Value} {d : Option Addr} {oe : Obj} {vs : Array Value} (e : h.get? a = some oe) (z : Zc cls d oe) (hd : oe.data = .fields vs) : ObjOk P w H h a (EV a cls d) :=
  ⟨⟨oe, e, z, vs, hd⟩, ⟨oe, e⟩, fun _ _ ⟨o, q, r⟩ k => ⟨o, k o q, r⟩⟩
/-- a tuple's place, its object known, without a dict -/
def NT (xs : List V) (u : HO) : Prop := ∃ ob, u = .frz ob (.tup xs) ∧ ob.dict = none
def TpN (K : PySem.W.Frag) (H : Hp) (a : Addr) (xs : List V) : Prop :=
  (∃ u, H a = some u ∧ NT xs u) ∨ ∃ (ob : Obj) (its : Array Value) (n : Nat), K.lookup a = some ob ∧ ob.cls = .type "tuple" ∧ ob.data = .seq its n ∧ its.size ≤ sizeLine ∧ Vals xs its.toList ∧ ob.dict = none
def tupO (its : List Value) : Obj := { cls := .type "tuple", data := .seq its.toArray }
section
variable {X : Cx} {pn : List (Addr × Obj)} {σ : L2.St} {H : Hp} {s : Shared} {a : Addr} {xs : List V} {its : List Value}
theorem TpN.sq {K : PySem.W.Frag} (h : TpN K H a xs) : SqT K H a xs := by
  rcases h with ⟨u, h, ob, rfl, _⟩ | ⟨ob, its, n, h1, h2, h3, h4, h5, _⟩
  · exact .inl (.inr ⟨ob, h⟩)
  · exact .inr ⟨ob, its, n, h1, h2, h3, h4, h5⟩
theorem TpN.ty (I : L2.Inv X pn σ H s) (h : TpN X.K H a xs) : s.TypeIs (.ref a) "tuple" ∧ ∀ b, Value.ref a = .ref b → ∃ ob, s.heap.get? b = some ob ∧ ob.dict = none := by
  rcases h with ⟨u, h, ob, rfl, hd⟩ | ⟨ob, its, n, h1, h2, h3, h4, h5, hd⟩
  · obtain ⟨e, _, its, _, o2, e2, c, _⟩ := (show ObjOk X.prog X.w H s.heap a (.frz ob (.tup xs)) from I.hok a _ h)
    exact ⟨⟨o2, e2, c⟩, fun b z => by cases z; exact ⟨ob, e, hd⟩⟩
  · exact ⟨⟨ob, I.kIn a ob h1, h2⟩, fun b z => by cases z; exact ⟨ob, I.kIn a ob h1, hd⟩⟩
theorem NT.new : NT xs (.frz (tupO its) (.tup xs)) := ⟨_, rfl, rfl⟩
theorem tupO_ok {P : Program} {w : World} {h : Heap} (z : xs.length ≤ sizeLine) (r : Vals xs its) (e : h.get? a = some (tupO its)) : ObjOk P w H h a (.frz (tupO its) (.tup xs)) :=
  ⟨e, z, its, r, ⟨_, e, rfl, _, rfl⟩⟩
end
section
variable {X : Cx} {es : List Expr} {t : TA} {pos : Pos}
/-- (a, b, ..) -/
def tTupN (t : TA) : TE := fun σ H Q => t σ H fun xs H1 => xs.length ≤ sizeLine ∧ ∀ p u, H1 p = none → NT xs u → Q (.ref p) (upd H1 p u)
theorem pe_tupN {x1} (h : PA X es t) : PE X (.Tuple es x1 pos) (tTupN t) := by
  refine ⟨fun pn s σ H Q I hq => wpAny_Tuple_spliced (thn (h.run pos pn s σ H _ I hq) fun us s1 ⟨xs, H1, I1, r, z, q⟩ => ⟨by rw [← r.length]; exact z, ?_⟩)⟩
  exact ⟨.ref s1.heap.objs.size, _, I1.laid (t' := s1.toks) (o := .frz (tupO us) (.tup xs)) (fun b u e => Heap.get?_push_of_some _ e) (Nat.le_refl _) (tupO_ok z r (Heap.get?_push_size _ rfl)), rfl, q _ _ (I1.hok.fresh (Nat.le_refl _)) .new⟩
/-- t + u -/
def rCatN (K : PySem.W.Frag) : R2 := fun x y H Q => ∃ a b xs ys, x = .ref a ∧ y = .ref b ∧ SqT K H a xs ∧ SqT K H b ys ∧ xs.length + ys.length ≤ sizeLine ∧
  (xs = [] → Q (.ref b) H) ∧ (xs ≠ [] → ys = [] → Q (.ref a) H) ∧ (xs ≠ [] → ys ≠ [] → ∀ p u, H p = none → NT (xs ++ ys) u → Q (.ref p) (upd H p u))
theorem op_catN : OpR X (binaryOp .Add) (rCatN X.K) := by
  intro pn s σ H x y v u Q I rx ry ⟨a, b, xs, ys, e1, e2, ha, hb, hz, q0, q1, q2⟩
  subst e1 e2
  by_cases hx : xs = []
  · subst hx
    exact op_catA pn s σ H _ _ v u Q I rx ry ⟨a, b, [], ys, rfl, rfl, ha, hb, hz, q0, fun z => absurd rfl z, fun z => absurd rfl z⟩
  · cases rx
    cases ry
    obtain ⟨us, r1, p1, _⟩ := I.tuple ha
    obtain ⟨us2, r2, p2, _⟩ := I.tuple hb
    refine HT.cat_tup p1 p2 (fun z => hx (r1.nil_iff.mp z)) (fun z => ⟨.ref a, H, I, rfl, q1 hx (r2.nil_iff.mp z)⟩) (fun z => ?_) (by rw [← r1.length, ← r2.length]; exact hz)
    exact ⟨.ref s.heap.objs.size, _, I.laid (t' := s.toks) (o := .frz (tupO (us ++ us2)) (.tup (xs ++ ys))) (fun b ob q => Heap.get?_push_of_some _ q) (Nat.le_refl _)
      (tupO_ok (by rw [List.length_append]; exact hz) (r1.append r2) (Heap.get?_push_size _ rfl)), rfl, q2 hx (fun w => z (r2.nil_iff.mpr w)) _ _ (I.hok.fresh (Nat.le_refl _)) .new⟩
/-- t[lo:hi] -/
def rSlN (K : PySem.W.Frag) : V → Option Int → Option Int → Hp → VK → Prop := fun x lo hi H Q => ∃ a xs, x = .ref a ∧ SqT K H a xs ∧
  (HT.sIx xs.length 0 lo = 0 ∧ HT.sIx xs.length xs.length hi = xs.length → Q (.ref a) H) ∧
  (¬ (HT.sIx xs.length 0 lo = 0 ∧ HT.sIx xs.length xs.length hi = xs.length) → ∀ p u, H p = none → NT (cutV xs lo hi) u → Q (.ref p) (upd H p u))
theorem sl_tupN : L2.SlR X (rSlN X.K) := by
  intro pn s σ H x v vl vu lo hi sl Q I rx hs pl pu ⟨a, xs, ex, hx, q1, q2⟩
  subst ex
  by_cases hw : HT.sIx xs.length 0 lo = 0 ∧ HT.sIx xs.length xs.length hi = xs.length
  · exact sl_tupA pn s σ H _ v vl vu lo hi sl Q I rx hs pl pu ⟨a, xs, rfl, hx, q1, fun z => absurd hw z⟩
  · cases rx
    obtain ⟨us, r, ht, hz⟩ := I.tuple hx
    have hn : us.toArray.size = xs.length := by rw [List.size_toArray]; exact r.length.symm
    refine ⟨"tuple", _, PyProof.Rows.slot_tuple_getitem.lookup, ht.typeIs, HT.getItem_tuple_cut ht hs pl pu (by rw [hn]; exact hw) ?_ (by rw [hn]; exact hz)⟩
    rw [hn]
    exact ⟨.ref s.heap.objs.size, _, I.laid (t' := s.toks) (o := .frz (tupO _) (.tup (cutV xs lo hi))) (fun b ob q => Heap.get?_push_of_some _ q) (Nat.le_refl _)
      (tupO_ok (Nat.le_trans (cutV_length xs lo hi) hz) ((r.drop (HT.sIx xs.length 0 lo)).take (HT.sIx xs.length xs.length hi - HT.sIx xs.length 0 lo)) (Heap.get?_push_size _ rfl)), rfl, q2 hw _ _ (I.hok.fresh (Nat.le_refl _)) .new⟩
/-- tuple(x) -/
theorem call_tupleN : CallR X (.type "tuple") (fun xs H Q => ∃ p ys, xs = [.ref p] ∧ ((SqL X.K H p ys ∧ ∀ l u, H l = none → NT ys u → Q (.ref l) (upd H l u)) ∨ (SqT X.K H p ys ∧ Q (.ref p) H))) := by
  intro pn s σ H xs us Q I r ⟨p, ys, ex, h⟩
  rcases h with ⟨hq, q⟩ | ⟨hq, q⟩
  · subst ex
    obtain ⟨u, rfl, rx⟩ := vals1 r
    cases rx
    obtain ⟨vs, r', pl, hz⟩ := I.list hq
    have hn := r'.length
    refine call_tuple_list pl.isList (fun h' kp => ?_) (by simp only [List.size_toArray] <;> omega)
    have I1 : L2.Inv X pn σ H { s with heap := h' } := I.kept (t' := s.toks) kp
    exact ⟨.ref h'.objs.size, _, I1.laid (t' := s.toks) (o := .frz (tupO vs) (.tup ys)) (h' := h'.push (tupO vs)) (fun b o e => Heap.get?_push_of_some _ e) (Nat.le_refl _)
      (tupO_ok hz r' (Heap.get?_push_size _ rfl)), rfl, q _ _ (I1.hok.fresh (Nat.le_refl _)) .new⟩
  · exact call_tuple_of pn s σ H xs us Q I r ⟨p, ys, ex, .inr ⟨hq, q⟩⟩
/-- t * k -/
def rRepN (K : PySem.W.Frag) : R2 := fun x y H Q => ∃ l k xs, x = .ref l ∧ y = .int k ∧ SqT K H l xs ∧ xs ≠ [] ∧ 2 ≤ k ∧ k ≤ 1000 ∧ xs.length ≤ 1000 ∧ ∀ p u, H p = none → NT (List.replicate k.toNat xs).flatten u → Q (.ref p) (upd H p u)
theorem op_repN : OpR X (binaryOp .Mult) (rRepN X.K) := by
  intro pn s σ H x y v u Q I rx ry ⟨l, k, xs, ex, ey, hT, hne, h1, h2, hz, q⟩
  subst ex ey
  cases rx
  obtain ⟨t, rfl⟩ := ry
  obtain ⟨us, r, ⟨⟨cls, dd, data, sl⟩, ho, hcl, n, hda⟩, hs⟩ := I.tuple hT
  simp only at hcl hda
  subst hcl hda
  have hle : us.length = xs.length := r.length.symm
  have hn : us ≠ [] := fun e => hne (List.eq_nil_of_length_eq_zero (by rw [← hle, e]; rfl))
  have hi : us.toArray.isEmpty = false := by
    cases us with
    | nil => exact absurd rfl hn
    | cons _ _ => rfl
  have hsz0 : us.toArray.size = xs.length := by rw [List.size_toArray, hle]
  have a1 : k.toNat * xs.length ≤ 1000 * 1000 := Nat.mul_le_mul (by omega) hz
  have hm : ((us.toArray.size : Nat) : Int) * k ≤ 1000000 := by
    rw [hsz0]
    have a2 : ((xs.length : Nat) : Int) * k ≤ 1000 * k := Int.mul_le_mul_of_nonneg_right (by omega) (by omega)
    omega
  have fl : (List.replicate k.toNat us).flatten.length ≤ sizeLine := by
    rw [PyProof.Rows.lm_len_rep_flat, hle, sizeLine_eq]
    omega
  have c0 : (decide (k < -(2 ^ 63)) || decide (k ≥ 2 ^ 63)) = false := by
    rw [decide_eq_false (show ¬ k < -(2 ^ 63) by omega), decide_eq_false (show ¬ k ≥ 2 ^ 63 by omega)] <;> rfl
  have c1 : (us.toArray.isEmpty || k == 1) = false := by
    rw [hi, Bool.false_or]
    exact beq_eq_false_iff_ne.mpr (show k ≠ 1 by omega)
  have c2 : (decide (k ≤ 0) || us.toArray.isEmpty) = false := by
    rw [hi, Bool.or_false]
    exact decide_eq_false (show ¬ k ≤ 0 by omega)
  have c4 : Builtin.Tuple.tupleTooMany (((us.toArray.size : Nat) : Int) * k) = false := by
    unfold Builtin.Tuple.tupleTooMany
    rw [sizeLine_eq]
    exact decide_eq_false (by omega : ¬ _)
  refine wpAny_binaryOp_repeat_ref (T := "tuple") (U := "int") (by decide) ⟨_, ho, rfl⟩ (fun s' => typeIs_int s' k t) noFill_tuple_mul F.fills_int_mul F.slot_int_rmul repeat_tuple F.slot_int_index.lookup
    (call_meets F.slot_int_rmul (typeIs_int s k t) F.entry_int_rmul (F.args_int_rmul_2 _ _) (int_rmul_tuple k t l us.toArray n dd sl)
      ⟨ho, rfl, ⟨_, ho, rfl⟩, call_meets F.slot_tuple_mul ⟨_, ho, rfl⟩ F.entry_tuple_mul (F.args_tuple_mul_2 _ _) (tuple_mulW l us.toArray n dd sl k t c0 c1 c2 (by omega) c4 (by rw [size_rep, List.size_toArray]; exact fl)) ⟨ho, ?_⟩⟩)
  rw [size_rep]
  exact ⟨.ref s.heap.objs.size, _, I.laid (t' := s.toks) (o := .frz (tupO (List.replicate k.toNat us).flatten) (.tup (List.replicate k.toNat xs).flatten)) (fun b ob q => Heap.get?_push_of_some _ q) (Nat.le_refl _)
    (tupO_ok (by rw [PyProof.Rows.lm_len_rep_flat, sizeLine_eq]; omega) (r.rep k.toNat) (Heap.get?_push_size _ rfl)), rfl, q _ _ (I.hok.fresh (Nat.le_refl _)) .new⟩
end
/-! ### methods of tuples -/
section
variable {X : Cx} {o e : Expr} {es : List Expr} {to : TE} {t : TA} {name : Str} {apos cpos : Pos} {id : String} {r : V → List V → Hp → VK → Prop}
def tBMT (K : PySem.W.Frag) (r : V → List V → Hp → VK → Prop) (to : TE) (t : TA) : TE := fun σ H Q => to σ H fun x H1 => (∃ a xs, x = .ref a ∧ TpN K H1 a xs) ∧ t σ H1 fun ys H2 => r x ys H2 Q
theorem pe_bmT (slot : Slot "tuple" name id) (hty : typeOf (.builtin id) = pure (.type "method_descriptor")) (hm : MtR X id r) (ho : PE X o to) (ha : PA X (e :: es) t)
    (hbase : attributeBase o name X.env (eval o X.env) = eval o X.env := by rfl)
    (hfew : ((backTo cpos (starEach (e :: es) X.env)).all (fun x => !x.1) && (backToKw cpos (keywordEach [] X.env)).all (fun x => x.1.isSome) && decide ((e :: es).length + ([] : List Keyword).length + (if ([] : List Keyword).isEmpty then 0 else 1) < 30)) = true := by rfl)
    (hline : (apos.endLine == cpos.line) = true := by rfl) (hs : starEach (e :: es) X.env = (false, eval e X.env) :: starEach es X.env := by rfl) (hpl : (backTo cpos (starEach es X.env)).any (·.1) = false := by rfl) :
    PE X (.Call (.Attribute o name apos) (e :: es) [] cpos) (tBMT X.K r to t) := by
  refine ⟨fun pn s σ H Q I h => wpAny_Call_method_late hbase hfew hline rfl (thn (ho.run pn s σ H _ I h) fun v s1 ⟨x, H1, I1, r1, ty, q1⟩ => ?_)⟩
  obtain ⟨a, xs, rfl, ty⟩ := ty
  cases r1
  have hA := ha.run cpos pn s1 σ H1 _ I1 q1
  refine ⟨"tuple", id, PySem.F.plainAttrs_tuple, slot, hty, (ty.ty I1).1, (ty.ty I1).2, ?_⟩
  rw [hs] at hA ⊢
  refine Calls.callWith_builtin (by show (false || (backTo cpos (starEach es X.env)).any (·.1)) = false; rw [hpl] <;> rfl) (Calls.evalArgs_plain (thn hA fun us s2 ⟨vs, H2, I2, r2, q2⟩ => ?_))
  exact hm pn s2 σ H2 (.ref a) vs (.ref a) us Q I2 rfl r2 q2
end
end RI
/-! RIM: tuple * int where nothing is repeated: a count of 1, of 0, below 0, or an empty tuple. -/
namespace L2
open PySem PySem.Spec PyProof.Rows
open RI (NT tupO tupO_ok)
theorem tuple_mulS (l : Addr) (items : Array Value) (n : Nat) (dd : Option Addr) (sl : Array (Option Value)) (x : Int) (u : Tok) (c0 : (decide (x < -(2 ^ 63)) || decide (x ≥ 2 ^ 63)) = false) (c1 : (items.isEmpty || x == 1) = true) :
    Meets (Builtin.«tuple.__mul__» ⟨[.ref l, .int x u], []⟩) (fun _ R s => s.heap.get? l = some { cls := .type "tuple", dict := dd, data := .seq items n, slots := sl } ∧
      R (.ok (.ret (Value.ref l))) s) :=
  .of_wp fun prog w A R s h => by
    obtain ⟨hp, g, d, tk, os⟩ := s
    obtain ⟨hl, h⟩ := h
    have f1 := AutoSeq1.idx_int
    wp_walk using wpAny_loadPart' hl
    repeat (first
      | (refine wpAny_ite_false (decide_eq_false (by rw [c0]; exact Bool.false_ne_true)) ?_; wp_walk using wpAny_loadPart' hl)
      | (refine wpAny_ite_true (decide_eq_true c1) ?_; wp_walk using wpAny_loadPart' hl))
    exact ⟨_, rfl, h⟩
theorem tuple_mul0 (l : Addr) (items : Array Value) (n : Nat) (dd : Option Addr) (sl : Array (Option Value)) (x : Int) (u : Tok) (c0 : (decide (x < -(2 ^ 63)) || decide (x ≥ 2 ^ 63)) = false) (c1 : (items.isEmpty || x == 1) = false) (c2 : (decide (x ≤ 0) || items.isEmpty) = true) :
    Meets (Builtin.«tuple.__mul__» ⟨[.ref l, .int x u], []⟩) (fun _ R s => s.heap.get? l = some { cls := .type "tuple", dict := dd, data := .seq items n, slots := sl } ∧
      R (.ok (.ret (Value.ref s.heap.objs.size))) { s with heap := s.heap.push { cls := Value.type "tuple", data := Data.seq #[] }, toks := s.toks }) :=
  .of_wp fun prog w A R s h => by
    obtain ⟨hp, g, d, tk, os⟩ := s
    obtain ⟨hl, h⟩ := h
    have f1 := AutoSeq1.idx_int
    wp_walk using wpAny_loadPart' hl
    repeat (first
      | (refine wpAny_ite_false (decide_eq_false (by rw [c0]; exact Bool.false_ne_true)) ?_; wp_walk using wpAny_loadPart' hl)
      | (refine wpAny_ite_false (decide_eq_false (by rw [c1]; exact Bool.false_ne_true)) ?_; wp_walk using wpAny_loadPart' hl)
      | (refine wpAny_ite_true (decide_eq_true c2) ?_; wp_walk using wpAny_loadPart' hl))
    exact ⟨_, rfl, h⟩
def rRep1 (K : PySem.W.Frag) : R2 := fun x y H Q => ∃ l k xs, x = .ref l ∧ y = .int k ∧ SqT K H l xs ∧ -(2 ^ 63) ≤ k ∧ k < 2 ^ 63 ∧
  ((xs = [] ∨ k = 1) → Q (.ref l) H) ∧ (xs ≠ [] → k ≤ 0 → ∀ p u, H p = none → NT [] u → Q (.ref p) (upd H p u)) ∧ (xs = [] ∨ k ≤ 1)
section
variable {X : Cx}
theorem op_rep1 : OpR X (binaryOp .Mult) (rRep1 X.K) := by
  intro pins s σ H x y v u Q I rx ry h
  obtain ⟨l, k, xs, rfl, rfl, hT, h1, h2, q1, q2, hc⟩ := h
  cases rx
  obtain ⟨t, rfl⟩ := ry
  obtain ⟨its, r, ⟨⟨cls, dd, data, sl⟩, ho, hcl, n, hd⟩, hs⟩ := I.tuple hT
  simp only at hcl hd
  subst hcl hd
  have hle : its.length = xs.length := r.length.symm
  have c0 : (decide (k < -(2 ^ 63)) || decide (k ≥ 2 ^ 63)) = false := by
    rw [decide_eq_false (by omega), decide_eq_false (by omega)] <;> rfl
  by_cases hw : xs = [] ∨ k = 1
  · have c1 : (its.toArray.isEmpty || k == 1) = true := by
      rcases hw with hw | hw
      · subst hw
        cases its with
        | nil => rfl
        | cons a b => cases hle
      · subst hw; simp
    refine wpAny_binaryOp_repeat_ref (T := "tuple") (U := "int") (by decide) ⟨_, ho, rfl⟩ (fun s' => typeIs_int s' k t) noFill_tuple_mul F.fills_int_mul F.slot_int_rmul repeat_tuple F.slot_int_index.lookup
      (call_meets F.slot_int_rmul (typeIs_int s k t) F.entry_int_rmul (F.args_int_rmul_2 _ _) (int_rmul_tuple k t l its.toArray n dd sl)
        ⟨ho, rfl, ⟨_, ho, rfl⟩, call_meets F.slot_tuple_mul ⟨_, ho, rfl⟩ F.entry_tuple_mul (F.args_tuple_mul_2 _ _) (tuple_mulS l its.toArray n dd sl k t c0 c1) ⟨ho, ?_⟩⟩)
    exact ⟨.ref l, H, I, rfl, q1 hw⟩
  · have hx : xs ≠ [] := fun e => hw (.inl e)
    have hk : k ≤ 0 := by
      rcases hc with e | e
      · exact absurd e hx
      · have : k ≠ 1 := fun e => hw (.inr e)
        omega
    have hn : its ≠ [] := fun e => hx (by
      rw [e] at hle
      exact List.eq_nil_of_length_eq_zero hle.symm)
    have hi : its.toArray.isEmpty = false := by
      cases its with
      | nil => exact absurd rfl hn
      | cons a b => rfl
    have c1 : (its.toArray.isEmpty || k == 1) = false := by
      rw [hi, Bool.false_or]
      exact beq_eq_false_iff_ne.mpr (by omega)
    have c2 : (decide (k ≤ 0) || its.toArray.isEmpty) = true := by
      rw [decide_eq_true hk, Bool.true_or]
    refine wpAny_binaryOp_repeat_ref (T := "tuple") (U := "int") (by decide) ⟨_, ho, rfl⟩ (fun s' => typeIs_int s' k t) noFill_tuple_mul F.fills_int_mul F.slot_int_rmul repeat_tuple F.slot_int_index.lookup
      (call_meets F.slot_int_rmul (typeIs_int s k t) F.entry_int_rmul (F.args_int_rmul_2 _ _) (int_rmul_tuple k t l its.toArray n dd sl)
        ⟨ho, rfl, ⟨_, ho, rfl⟩, call_meets F.slot_tuple_mul ⟨_, ho, rfl⟩ F.entry_tuple_mul (F.args_tuple_mul_2 _ _) (tuple_mul0 l its.toArray n dd sl k t c0 c1 c2) ⟨ho, ?_⟩⟩)
    refine ⟨.ref s.heap.objs.size, _, I.laid (t' := s.toks) (o := .frz (tupO []) (.tup [])) (fun b ob q => Heap.get?_push_of_some _ q) (Nat.le_refl _) ?_, rfl, q2 hx hk _ _ (I.hok.fresh (Nat.le_refl _)) .new⟩
    exact tupO_ok (Nat.zero_le _) .nil (Heap.get?_push_size _ rfl)
end
end L2
/-! RI3: what stands in the heap for data, cells, names; how it is kept. -/
namespace RI
open PySem PySem.Spec PyProof.Rows L2
abbrev St := L2.St

/-- where the cells stand, and what is held aside: it is never looked at, nor changed -/
structure Rho where
  l : List Addr
  F : Addr → Prop
def Rho.app (ρ : Rho) (t : List Addr) : Rho := ⟨ρ.l ++ t, ρ.F⟩
@[simp] theorem Rho.app_nil (ρ : Rho) : ρ.app [] = ρ := by cases ρ; simp [Rho.app]
@[simp] theorem Rho.app_app (ρ : Rho) (t u : List Addr) : (ρ.app t).app u = ρ.app (t ++ u) := by simp [Rho.app]
/-- the error that is handled here -/
abbrev Ex := Option (Addr × Value × Option Addr)

/-- the script's list -/
def ScrL (K : PySem.W.Frag) (H : Hp) (a : Addr) (xs : List V) : Prop :=
  (∃ o, H a = some (.frz o (.lst xs))) ∨
    ∃ (o : Obj) (its : Array Value) (n : Nat), K.lookup a = some o ∧ o.cls = .type "list" ∧ o.dict = none ∧ o.data = .seq its n ∧ its.size ≤ sizeLine ∧ Vals xs its.toList
theorem ScrL.sq {K : PySem.W.Frag} {H : Hp} {a : Addr} {xs : List V} (h : ScrL K H a xs) : SqL K H a xs := by
  rcases h with ⟨o, h⟩ | h
  · exact .inl (.inr ⟨o, h⟩)
  · exact .inr h
mutual
inductive RelD (G : Wd) (L : Addr → Prop) (H : Hp) : D → V → Prop where
  | non : RelD G L H .non .non
  | bl (b : Bool) : RelD G L H (.bl b) (.bl b)
  | int (i : Int) : RelD G L H (.int i) (.int i)
  | str (s : List Nat) : RelD G L H (.str s) (.str (Str' s))
  | tup {a : Addr} {vs : List V} {xs : List D} : TpN G.K H a vs → RelDs G L H xs vs → RelD G L H (.tup xs) (.ref a)
  | lst {a : Addr} {vs : List V} {xs : List D} : H a = some (.lst vs) → ¬ L a → RelDs G L H xs vs → RelD G L H (.lst xs) (.ref a)
  | dic {a : Addr} {kvs : List (D × D)} {ks : List (Key × V)} : H a = some (.dK ks) → ¬ L a → RelKs G L H kvs ks → RelD G L H (.dic kvs) (.ref a)
  | obj {a dx : Addr} {c : Nat} {fs : List (Nat × D)} {vs : List (Str × V)} : G.exc c = false → H a = some (.ins (G.ca c) dx vs) → ¬ L a → RelFs G L H fs vs → RelD G L H (.obj c fs) (.ref a)
  /-- an error that is held: its object, its dict -/
  | err {a : Addr} {d : Option Addr} {c : Nat} {fs : List (Nat × D)} {vs : List (Str × V)} : G.exc c = true → H a = some (EV a (.ref (G.ca c)) d) → ¬ L a → (∀ dd, d = some dd → H dd = some (.xd vs) ∧ ¬ L dd) → (d = none → vs = []) →
      RelFs G L H fs vs → RelD G L H (.obj c fs) (.ref a)
  | fn (f : Nat) : RelD G L H (.fn f) (.ref (G.fa f))
inductive RelDs (G : Wd) (L : Addr → Prop) (H : Hp) : List D → List V → Prop where
  | nil : RelDs G L H [] []
  | cons {x : D} {v : V} {xs : List D} {vs : List V} : RelD G L H x v → RelDs G L H xs vs → RelDs G L H (x :: xs) (v :: vs)
inductive RelFs (G : Wd) (L : Addr → Prop) (H : Hp) : List (Nat × D) → List (Str × V) → Prop where
  | nil : RelFs G L H [] []
  | cons {f : Nat} {x : D} {v : V} {fs : List (Nat × D)} {vs : List (Str × V)} : RelD G L H x v → RelFs G L H fs vs → RelFs G L H ((f, x) :: fs) ((G.nm f, v) :: vs)
inductive RelKs (G : Wd) (L : Addr → Prop) (H : Hp) : List (D × D) → List (Key × V) → Prop where
  | nil : RelKs G L H [] []
  | cons {k x : D} {key : Key} {v : V} {kvs : List (D × D)} {ks : List (Key × V)} : keyD k = some key → RelD G L H x v → RelKs G L H kvs ks → RelKs G L H ((k, x) :: kvs) ((key, v) :: ks)
end

inductive RelW (G : Wd) (ex : Ex) (L : Addr → Prop) (ρ : Rho) (H : Hp) : W → V → Prop where
  | d {x : D} {v : V} : RelD G L H x v → RelW G ex L ρ H (.d x) v
  | loc {l : Nat} {a : Addr} : ρ.l[l]? = some a → RelW G ex L ρ H (.loc l) (.ref a)
  | scr {ns : List Int} {a : Addr} : ScrL G.K H a (ns.map V.int) → RelW G ex L ρ H (.scr ns) (.ref a)
  | exn {c : Nat} {fs : List (Nat × D)} {a : Addr} {dx : Option Addr} {vs : List (Str × V)} : ex = some (a, .ref (G.ca c), dx) →
      (∀ d, dx = some d → H d = some (.xd vs) ∧ ¬ L d) → (dx = none → vs = []) → RelFs G L H fs vs → RelW G ex L ρ H (.exn c fs) (.ref a)
inductive RelWs (G : Wd) (ex : Ex) (L : Addr → Prop) (ρ : Rho) (H : Hp) : List W → List V → Prop where
  | nil : RelWs G ex L ρ H [] []
  | cons {w : W} {v : V} {ws : List W} {vs : List V} : RelW G ex L ρ H w v → RelWs G ex L ρ H ws vs → RelWs G ex L ρ H (w :: ws) (v :: vs)
inductive RelFw (G : Wd) (L : Addr → Prop) (ρ : Rho) (H : Hp) : List (Nat × W) → List (Str × V) → Prop where
  | nil : RelFw G L ρ H [] []
  | cons {f : Nat} {w : W} {v : V} {fs : List (Nat × W)} {vs : List (Str × V)} : RelW G none L ρ H w v → RelFw G L ρ H fs vs → RelFw G L ρ H ((f, w) :: fs) ((G.nm f, v) :: vs)

inductive RelTs (G : Wd) (L : Addr → Prop) (H : Hp) : List (List Int × D) → List (List Int × Addr × V) → Prop where
  | nil : RelTs G L H [] []
  | cons {ks : List Int} {b : Addr} {x : D} {v : V} {kvs : List (List Int × D)} {T : List (List Int × Addr × V)} : SqT G.K H b (ks.map V.int) → RelD G L H x v → RelTs G L H kvs T → RelTs G L H ((ks, x) :: kvs) ((ks, b, v) :: T)
inductive RelC (G : Wd) (L : Addr → Prop) (ρ : Rho) (H : Hp) : Cell → Addr → Prop where
  | lst {a : Addr} {xs : List D} {vs : List V} : H a = some (.lst vs) → RelDs G L H xs vs → RelC G L ρ H (.lst xs) a
  | lsw {a : Addr} {ws : List W} {vs : List V} : H a = some (.lst vs) → RelWs G none L ρ H ws vs → RelC G L ρ H (.lsw ws) a
  | dct {a : Addr} {kvs : List (D × D)} {ks : List (Key × V)} : H a = some (.dK ks) → RelKs G L H kvs ks → RelC G L ρ H (.dct kvs) a
  | dtt {a : Addr} {kvs : List (List Int × D)} {T : List (List Int × Addr × V)} : H a = some (DTO a T) → RelTs G L H kvs T → RelC G L ρ H (.dtt kvs) a
  | ins {a dx : Addr} {c : Nat} {fs : List (Nat × W)} {vs : List (Str × V)} : G.exc c = false → H a = some (.ins (G.ca c) dx vs) → RelFw G L ρ H fs vs → RelC G L ρ H (.ins c fs) a
  | dead {a : Addr} : RelC G L ρ H .dead a

def alive : Cell → Bool
  | .dead => false
  | _ => true
def Live (ρ : Rho) (S : Store) (a : Addr) : Prop := ρ.F a ∨ ∃ (l : Nat) (c : Cell), S[l]? = some c ∧ alive c = true ∧ ρ.l[l]? = some a

structure RelS (G : Wd) (ρ : Rho) (S : Store) (H : Hp) : Prop where
  len : ρ.l.length = S.length
  nd : ρ.l.Nodup
  cell : ∀ (l : Nat) (c : Cell) (a : Addr), S[l]? = some c → ρ.l[l]? = some a → RelC G (Live ρ S) ρ H c a
  dom : ∀ a ∈ ρ.l, H a ≠ none
  res : ∀ a, ρ.F a → H a ≠ none ∧ a ∉ ρ.l

structure RelAll (G : Wd) (ex : Ex) (ρ : Rho) (η : Env) (S : Store) (σ : St) (H : Hp) : Prop where
  st : RelS G ρ S H
  len : η.length = σ.length
  slot : ∀ (i : Nat) (w : W), η[i]? = some (some w) → ∃ v, σ[i]? = some (some v) ∧ RelW G ex (Live ρ S) ρ H w v

def Solid : HO → Prop
  | .tup _ => True
  | .frz _ _ => True
  | _ => False

structure Ext (ρ : Rho) (S : Store) (H : Hp) (ρ' : Rho) (S' : Store) (H' : Hp) : Prop where
  pre : ∃ t, ρ' = ρ.app t
  keep : ∀ a o, H a = some o → (Live ρ S a → Solid o) → H' a = some o
  new : ∀ a, Live ρ' S' a → Live ρ S a ∨ H a = none
  dom : ∀ a, H a ≠ none → H' a ≠ none
  res : ∀ a, ρ.F a → H a ≠ none → H' a = H a

section
variable {G : Wd} {ex : Ex} {ρ ρ1 ρ2 : Rho} {S S1 S2 : Store} {H H1 H2 : Hp} {L L' : Addr → Prop}
theorem Ext.refl : Ext ρ S H ρ S H := ⟨⟨[], by simp⟩, fun _ _ e _ => e, fun _ h => .inl h, fun _ h => h, fun _ _ _ => rfl⟩
theorem Ext.trans (a : Ext ρ S H ρ1 S1 H1) (b : Ext ρ1 S1 H1 ρ2 S2 H2) : Ext ρ S H ρ2 S2 H2 := by
  obtain ⟨t, e⟩ := a.pre
  obtain ⟨u, e'⟩ := b.pre
  refine ⟨⟨t ++ u, by rw [e', e, Rho.app_app]⟩, fun x o h hl => ?_, fun x h => ?_, fun x h => b.dom x (a.dom x h), fun x f h => (b.res x (by rw [e]; exact f) (a.dom x h)).trans (a.res x f h)⟩
  · refine b.keep x o (a.keep x o h hl) fun h1 => ?_
    rcases a.new x h1 with z | z
    · exact hl z
    · rw [z] at h; cases h
  · rcases b.new x h with z | z
    · exact a.new x z
    · right
      cases e : H x with
      | none => rfl
      | some o => exact absurd z (a.dom x (by rw [e]; simp))

/-- how data are kept: K the heap, L the cells -/
structure Kp (L : Addr → Prop) (H : Hp) (L' : Addr → Prop) (H' : Hp) : Prop where
  keep : ∀ a o, H a = some o → (L a → Solid o) → H' a = some o
  new : ∀ a, L' a → L a ∨ H a = none
theorem Ext.kp (a : Ext ρ S H ρ1 S1 H1) : Kp (Live ρ S) H (Live ρ1 S1) H1 := ⟨a.keep, a.new⟩
theorem Kp.out (k : Kp L H L' H1) {a : Addr} {o : HO} (h : H a = some o) (n : ¬ L a) : ¬ L' a := fun q => by
  rcases k.new a q with z | z
  · exact n z
  · rw [z] at h; cases h
theorem Kp.sqT (k : Kp L H L' H1) {K : PySem.W.Frag} {a : Addr} {vs : List V} (h : SqT K H a vs) : SqT K H1 a vs := by
  rcases h with (h | ⟨o, h⟩) | h
  · exact .inl (.inl (k.keep a _ h fun _ => trivial))
  · exact .inl (.inr ⟨o, k.keep a _ h fun _ => trivial⟩)
  · exact .inr h
theorem Kp.tpN (k : Kp L H L' H1) {K : PySem.W.Frag} {a : Addr} {vs : List V} (h : TpN K H a vs) : TpN K H1 a vs := by
  rcases h with ⟨u, h, ob, rfl, hd⟩ | h
  · exact .inl ⟨_, k.keep a _ h fun _ => trivial, ob, rfl, hd⟩
  · exact .inr h
mutual
theorem RelD.mono (k : Kp L H L' H1) : ∀ {x : D} {v : V}, RelD G L H x v → RelD G L' H1 x v
  | _, _, .non => .non
  | _, _, .bl b => .bl b
  | _, _, .int i => .int i
  | _, _, .str s => .str s
  | _, _, .tup h hs => .tup (k.tpN h) (RelDs.mono k hs)
  | _, _, .lst h n hs => .lst (k.keep _ _ h fun z => absurd z n) (k.out h n) (RelDs.mono k hs)
  | _, _, .dic h n hs => .dic (k.keep _ _ h fun z => absurd z n) (k.out h n) (RelKs.mono k hs)
  | _, _, .obj hx h n hs => .obj hx (k.keep _ _ h fun z => absurd z n) (k.out h n) (RelFs.mono k hs)
  | _, _, .err hx h n hd h0 hs => .err hx (k.keep _ _ h fun z => absurd z n) (k.out h n) (fun dd e => ⟨k.keep _ _ (hd dd e).1 fun z => absurd z (hd dd e).2, k.out (hd dd e).1 (hd dd e).2⟩) h0 (RelFs.mono k hs)
  | _, _, .fn f => .fn f
theorem RelDs.mono (k : Kp L H L' H1) : ∀ {xs : List D} {vs : List V}, RelDs G L H xs vs → RelDs G L' H1 xs vs
  | _, _, .nil => .nil
  | _, _, .cons h hs => .cons (RelD.mono k h) (RelDs.mono k hs)
theorem RelFs.mono (k : Kp L H L' H1) : ∀ {fs : List (Nat × D)} {vs : List (Str × V)}, RelFs G L H fs vs → RelFs G L' H1 fs vs
  | _, _, .nil => .nil
  | _, _, .cons h hs => .cons (RelD.mono k h) (RelFs.mono k hs)
theorem RelKs.mono (k : Kp L H L' H1) : ∀ {fs : List (D × D)} {vs : List (Key × V)}, RelKs G L H fs vs → RelKs G L' H1 fs vs
  | _, _, .nil => .nil
  | _, _, .cons e h hs => .cons e (RelD.mono k h) (RelKs.mono k hs)
end
theorem RelTs.mono (k : Kp L H L' H1) : ∀ {kvs : List (List Int × D)} {T : List (List Int × Addr × V)}, RelTs G L H kvs T → RelTs G L' H1 kvs T
  | _, _, .nil => .nil
  | _, _, .cons e h hs => .cons (k.sqT e) (RelD.mono k h) (RelTs.mono k hs)
theorem pre_get {ρ : Rho} {t : List Addr} {l : Nat} {a : Addr} (h : ρ.l[l]? = some a) : (ρ.app t).l[l]? = some a := by
  show (ρ.l ++ t)[l]? = some a
  rw [List.getElem?_append_left (List.getElem?_eq_some_iff.mp h).1]
  exact h
theorem RelW.mono (k : Kp L H L' H1) (p : ∃ t, ρ1 = ρ.app t) {w : W} {v : V} (h : RelW G ex L ρ H w v) : RelW G ex L' ρ1 H1 w v := by
  obtain ⟨t, rfl⟩ := p
  cases h with
  | d h => exact .d (h.mono k)
  | loc h => exact .loc (pre_get h)
  | scr h =>
    refine .scr ?_
    rcases h with ⟨o, h⟩ | h
    · exact .inl ⟨o, k.keep _ _ h fun _ => trivial⟩
    · exact .inr h
  | exn h1 h2 h3 h4 => exact .exn h1 (fun d e => ⟨k.keep _ _ (h2 d e).1 fun z => absurd z (h2 d e).2, k.out (h2 d e).1 (h2 d e).2⟩) h3 (h4.mono k)
theorem RelWs.mono (k : Kp L H L' H1) (p : ∃ t, ρ1 = ρ.app t) : ∀ {ws : List W} {vs : List V}, RelWs G ex L ρ H ws vs → RelWs G ex L' ρ1 H1 ws vs
  | _, _, .nil => .nil
  | _, _, .cons h hs => .cons (h.mono k p) (RelWs.mono k p hs)
theorem RelFw.mono (k : Kp L H L' H1) (p : ∃ t, ρ1 = ρ.app t) : ∀ {ws : List (Nat × W)} {vs : List (Str × V)}, RelFw G L ρ H ws vs → RelFw G L' ρ1 H1 ws vs
  | _, _, .nil => .nil
  | _, _, .cons h hs => .cons (h.mono k p) (RelFw.mono k p hs)
theorem RelAll.mono {η : Env} {σ : St} (R : RelAll G ex ρ η S σ H) (e : Ext ρ S H ρ1 S1 H1) (R1 : RelS G ρ1 S1 H1) : RelAll G ex ρ1 η S1 σ H1 :=
  ⟨R1, R.len, fun i w h => let ⟨v, e1, r⟩ := R.slot i w h; ⟨v, e1, r.mono e.kp e.pre⟩⟩
end

/-! ### what is wanted of a run -/
/-- how a raised error lies -/
def RelX (G : Wd) (L : Addr → Prop) (H : Hp) (fs : List (Nat × D)) (dx : Option Addr) : Prop :=
  (fs = [] ∧ dx = none) ∨ ∃ d vs, dx = some d ∧ H d = some (.xd vs) ∧ ¬ L d ∧ RelFs G L H fs vs
def Sat {α : Type} (G : Wd) (Wx : XK) (ρ : Rho) (S : Store) (H : Hp) (r : Res α) (P : α → Rho → Store → Hp → Prop) : Prop :=
  match r with
  | .ok a S' => ∀ ρ' H', Ext ρ S H ρ' S' H' → RelS G ρ' S' H' → P a ρ' S' H'
  | .exc c fs S' => ∀ dx ρ' H', Ext ρ S H ρ' S' H' → RelS G ρ' S' H' → RelX G (Live ρ' S') H' fs dx → Wx (.ref (G.ca c)) dx H'
  | .stk => False
section
variable {G : Wd} {ex : Ex} {Wx : XK} {ρ ρ1 : Rho} {S S1 : Store} {H H1 : Hp} {α β : Type} {r : Res α} {f : α → Store → Res β} {P : α → Rho → Store → Hp → Prop} {Q : β → Rho → Store → Hp → Prop}
theorem Sat.from (e : Ext ρ S H ρ1 S1 H1) (h : Sat G Wx ρ S H r P) : Sat G Wx ρ1 S1 H1 r P := by
  cases r with
  | ok a S' => exact fun ρ' H' e' R => h ρ' H' (e.trans e') R
  | exc c fs S' => exact fun dx ρ' H' e' R x => h dx ρ' H' (e.trans e') R x
  | stk => exact h
theorem Sat.bind (h : Sat G Wx ρ S H (r.bind f) Q) : Sat G Wx ρ S H r fun a ρ1 S1 H1 => Ext ρ S H ρ1 S1 H1 ∧ RelS G ρ1 S1 H1 ∧ Sat G Wx ρ1 S1 H1 (f a S1) Q := by
  cases r with
  | ok a S' => exact fun ρ' H' e R => ⟨e, R, Sat.from e h⟩
  | exc c fs S' => exact h
  | stk => exact h
--theorem Sat.imp (h : Sat G Wx ρ S H r P) (k : ∀ a ρ' S' H', Ext ρ S H ρ' S' H' → RelS G ρ' S' H' → P a ρ' S' H' → ∀ {Q' : α → Rho → Store → Hp → Prop}, (P a ρ' S' H' → Q' a ρ' S' H') → Q' a ρ' S' H') : True := trivial
theorem Sat.mono {P' : α → Rho → Store → Hp → Prop} (h : Sat G Wx ρ S H r P) (k : ∀ a ρ' S' H', Ext ρ S H ρ' S' H' → RelS G ρ' S' H' → P a ρ' S' H' → P' a ρ' S' H') : Sat G Wx ρ S H r P' := by
  cases r with
  | ok a S' => exact fun ρ' H' e R => k _ _ _ _ e R (h ρ' H' e R)
  | exc c fs S' => exact h
  | stk => exact h
/-- something known is there -/
theorem Sat.now {a : α} (R : RelS G ρ S H) (h : Sat G Wx ρ S H (.ok a S) P) : P a ρ S H := h ρ H .refl R
theorem Sat.ofO_bind {o : Option α} {S0 : Store} (h : Sat G Wx ρ S H ((ofO o S0).bind f) Q) : ∃ a, o = some a ∧ Sat G Wx ρ S H (f a S0) Q := by
  cases o with
  | some a => exact ⟨a, rfl, h⟩
  | none => exact h.elim
theorem Sat.ofO {o : Option α} {S0 : Store} (h : Sat G Wx ρ S H (ofO o S0) P) : ∃ a, o = some a ∧ Sat G Wx ρ S H (.ok a S0) P := by
  cases o with
  | some a => exact ⟨a, rfl, h⟩
  | none => exact h.elim
end

/-- an expression's reading by what the evaluator says of it -/
def RdE (G : Wd) (ex : Ex) (Wx : L2.WX) (m : Env → Store → Res W) : TE := fun σ H Q => ∃ ρ η S, RelAll G ex ρ η S σ H ∧
  Sat G (fun c d H => Wx c d σ H) ρ S H (m η S) fun w ρ' S' H' => ∀ v, RelW G ex (Live ρ' S') ρ' H' w v → Q v H'
def RdT (G : Wd) (ex : Ex) (Wx : L2.WX) (m : Env → Store → Res Bool) : TT := fun σ H Q => ∃ ρ η S, RelAll G ex ρ η S σ H ∧
  Sat G (fun c d H => Wx c d σ H) ρ S H (m η S) fun b ρ' S' H' => Q b H'
def RdEs (G : Wd) (ex : Ex) (Wx : L2.WX) (m : Env → Store → Res (List W)) : TA := fun σ H Q => ∃ ρ η S, RelAll G ex ρ η S σ H ∧
  Sat G (fun c d H => Wx c d σ H) ρ S H (m η S) fun ws ρ' S' H' => ∀ vs, RelWs G ex (Live ρ' S') ρ' H' ws vs → Q vs H'

section
variable {G : Wd} {ex : Ex} {Wx : L2.WX} {ρ : Rho} {S : Store} {H : Hp} {σ : St} {η : Env} {α : Type} {P : α → Rho → Store → Hp → Prop}
/-- first a value, then the rest -/
theorem rd1 {m : Env → Store → Res W} {f : W → Store → Res α} {Q : VK} (R : RelAll G ex ρ η S σ H) (h : Sat G (fun c d H => Wx c d σ H) ρ S H ((m η S).bind f) P)
    (k : ∀ w v ρ1 S1 H1, RelAll G ex ρ1 η S1 σ H1 → Ext ρ S H ρ1 S1 H1 → RelW G ex (Live ρ1 S1) ρ1 H1 w v → Sat G (fun c d H => Wx c d σ H) ρ1 S1 H1 (f w S1) P → Q v H1) : RdE G ex Wx m σ H Q :=
  ⟨ρ, η, S, R, h.bind.mono fun w ρ1 S1 H1 _ _ ⟨e, R1, h1⟩ v r => k w v ρ1 S1 H1 (R.mono e R1) e r h1⟩
theorem rd1s {m : Env → Store → Res (List W)} {f : List W → Store → Res α} {Q : List V → Hp → Prop} (R : RelAll G ex ρ η S σ H) (h : Sat G (fun c d H => Wx c d σ H) ρ S H ((m η S).bind f) P)
    (k : ∀ ws vs ρ1 S1 H1, RelAll G ex ρ1 η S1 σ H1 → Ext ρ S H ρ1 S1 H1 → RelWs G ex (Live ρ1 S1) ρ1 H1 ws vs → Sat G (fun c d H => Wx c d σ H) ρ1 S1 H1 (f ws S1) P → Q vs H1) : RdEs G ex Wx m σ H Q :=
  ⟨ρ, η, S, R, h.bind.mono fun w ρ1 S1 H1 _ _ ⟨e, R1, h1⟩ v r => k w v ρ1 S1 H1 (R.mono e R1) e r h1⟩
theorem rd1t {m : Env → Store → Res Bool} {f : Bool → Store → Res α} {Q : Bool → Hp → Prop} (R : RelAll G ex ρ η S σ H) (h : Sat G (fun c d H => Wx c d σ H) ρ S H ((m η S).bind f) P)
    (k : ∀ b ρ1 S1 H1, RelAll G ex ρ1 η S1 σ H1 → Ext ρ S H ρ1 S1 H1 → Sat G (fun c d H => Wx c d σ H) ρ1 S1 H1 (f b S1) P → Q b H1) : RdT G ex Wx m σ H Q :=
  ⟨ρ, η, S, R, h.bind.mono fun w ρ1 S1 H1 _ _ ⟨e, R1, h1⟩ => k w ρ1 S1 H1 (R.mono e R1) e h1⟩
end
theorem PE.of {X : Cx} {e : Expr} {t t' : TE} (h : PE X e t) (k : ∀ σ H Q, t' σ H Q → t σ H Q) : PE X e t' := ⟨fun pins s σ H Q I q => h.run pins s σ H Q I (k σ H Q q)⟩
theorem PT.of {X : Cx} {e : Expr} {t t' : TT} (h : PT X e t) (k : ∀ σ H Q, t' σ H Q → t σ H Q) : PT X e t' := ⟨fun pins s σ H Q I q => h.run pins s σ H Q I (k σ H Q q)⟩
theorem PA.of {X : Cx} {e : List Expr} {t t' : TA} (h : PA X e t) (k : ∀ σ H Q, t' σ H Q → t σ H Q) : PA X e t' := ⟨fun pos pins s σ H Q I q => h.run pos pins s σ H Q I (k σ H Q q)⟩
theorem PS.of {X : Cx} {e : Stmt} {t t' : TS} (h : PS X e t) (k : ∀ D σ H, t' D σ H → t D σ H) : PS X e t' := ⟨fun pins s σ H D I q => h.run pins s σ H D I (k D σ H q)⟩
theorem PSs.of {X : Cx} {e : List Stmt} {t t' : TS} (h : PSs X e t) (k : ∀ D σ H, t' D σ H → t D σ H) : PSs X e t' := ⟨fun pins s σ H D I q => h.run pins s σ H D I (k D σ H q)⟩
end RI
/-! RI4: steps of the heap under the relations. -/
namespace RI
open PySem PySem.Spec PyProof.Rows L2

section
variable {G : Wd} {ex : Ex} {ρ ρ1 ρ2 : Rho} {S S1 S2 : Store} {H H1 H2 : Hp} {L L' : Addr → Prop} {p a : Addr} {o : HO} {c c' : Cell} {l : Nat}

theorem upd_some {b : Addr} {q : HO} (hp : H p = none) (h : H b = some q) : upd H p o b = some q := by
  rw [upd_ne (ne_of_none h hp)]; exact h
theorem upd_dom {b : Addr} (h : H b ≠ none) : upd H p o b ≠ none := by
  by_cases e : b = p
  · subst e; rw [upd_same]; simp
  · rw [upd_ne e]; exact h
theorem Ext.newObj (hp : H p = none) : Ext ρ S H ρ S (upd H p o) :=
  ⟨⟨[], by simp⟩, fun b q h _ => upd_some hp h, fun _ h => .inl h, fun b h => upd_dom h, fun b _ h => upd_ne (fun e => h (e ▸ hp))⟩

theorem RelC.keep (e : ∀ q, H a = some q → H1 a = some q) (k : Kp L H L' H1) (pr : ∃ t, ρ1 = ρ.app t) (h : RelC G L ρ H c a) : RelC G L' ρ1 H1 c a := by
  cases h with
  | lst h hs => exact .lst (e _ h) (hs.mono k)
  | lsw h hs => exact .lsw (e _ h) (hs.mono k pr)
  | dct h hs => exact .dct (e _ h) (hs.mono k)
  | dtt h hs => exact .dtt (e _ h) (hs.mono k)
  | ins hx h hs => exact .ins hx (e _ h) (hs.mono k pr)
  | dead => exact .dead
theorem RelS.newObj (R : RelS G ρ S H) (hp : H p = none) : RelS G ρ S (upd H p o) :=
  ⟨R.len, R.nd, fun l c a h1 h2 => (R.cell l c a h1 h2).keep (fun q h => upd_some hp h) (Ext.newObj (ρ := ρ) (S := S) hp).kp ⟨[], by simp⟩, fun a h => upd_dom (R.dom a h), fun a f => ⟨upd_dom (R.res a f).1, (R.res a f).2⟩⟩
theorem RelC.obj (h : RelC G L ρ H c a) (al : alive c = true) : ∃ q, H a = some q ∧ ¬ Solid q := by
  cases h with
  | lst h hs => exact ⟨_, h, fun z => z⟩
  | lsw h hs => exact ⟨_, h, fun z => z⟩
  | dct h hs => exact ⟨_, h, fun z => z⟩
  | dtt h hs => exact ⟨_, h, fun z => z⟩
  | ins _ h hs => exact ⟨_, h, fun z => z⟩
  | dead => cases al
theorem get_lt {α : Type} {xs : List α} {i : Nat} {x : α} (h : xs[i]? = some x) : i < xs.length := (List.getElem?_eq_some_iff.mp h).1
theorem nd_inj {xs : List Addr} (n : xs.Nodup) {i j : Nat} {x : Addr} (a : xs[i]? = some x) (b : xs[j]? = some x) : i = j := by
  obtain ⟨h1, e1⟩ := List.getElem?_eq_some_iff.mp a
  obtain ⟨h2, e2⟩ := List.getElem?_eq_some_iff.mp b
  exact (List.getElem_inj n).mp (e1.trans e2.symm)
theorem RelS.addr (R : RelS G ρ S H) (h : S[l]? = some c) : ∃ a, ρ.l[l]? = some a := by
  have := get_lt h
  rw [← R.len] at this
  exact ⟨_, List.getElem?_eq_getElem this⟩
theorem RelS.live (R : RelS G ρ S H) (h : S[l]? = some c) (al : alive c = true) (ha : ρ.l[l]? = some a) : Live ρ S a := .inr ⟨l, c, h, al, ha⟩
theorem RelS.liveDom (R : RelS G ρ S H) (h : Live ρ S a) : H a ≠ none := by
  rcases h with f | ⟨l, c, _, _, e⟩
  · exact (R.res a f).1
  · exact R.dom a (List.mem_of_getElem? e)
theorem RelS.fresh (R : RelS G ρ S H) (hp : H p = none) : ¬ Live ρ S p := fun h => R.liveDom h hp
theorem RelS.notin (R : RelS G ρ S H) (hp : H p = none) : p ∉ ρ.l := fun h => R.dom p h hp
/-- the cell l is written -/
theorem live_set (R : RelS G ρ S H) (h : S[l]? = some c) (al : alive c = true) : ∀ b, Live ρ (S.set l c') b → Live ρ S b := by
  rintro b (f | ⟨m, d, h1, h2, h3⟩)
  · exact .inl f
  by_cases e : m = l
  · subst e; exact .inr ⟨m, c, h, al, h3⟩
  · rw [List.getElem?_set_ne (Ne.symm e)] at h1
    exact .inr ⟨m, d, h1, h2, h3⟩
theorem Ext.setCell (R : RelS G ρ S H) (h : S[l]? = some c) (al : alive c = true) (ha : ρ.l[l]? = some a) : Ext ρ S H ρ (S.set l c') (upd H a o) := by
  refine ⟨⟨[], by simp⟩, fun b q hb hs => ?_, fun b hb => .inl (live_set R h al b hb), fun b hb => upd_dom hb, fun b f _ => upd_ne (fun e => (R.res b f).2 (e ▸ List.mem_of_getElem? ha))⟩
  by_cases e : b = a
  · subst e
    obtain ⟨q', e', n⟩ := (R.cell l c b h ha).obj al
    rw [hb] at e'; cases e'
    exact absurd (hs (R.live h al ha)) n
  · rw [upd_ne e]; exact hb
theorem RelS.setCell (R : RelS G ρ S H) (h : S[l]? = some c) (al : alive c = true) (ha : ρ.l[l]? = some a)
    (hc : RelC G (Live ρ (S.set l c')) ρ (upd H a o) c' a) : RelS G ρ (S.set l c') (upd H a o) := by
  refine ⟨by rw [List.length_set]; exact R.len, R.nd, fun m d b h1 h2 => ?_, fun b hb => upd_dom (R.dom b hb), fun b f => ⟨upd_dom (R.res b f).1, (R.res b f).2⟩⟩
  by_cases e : m = l
  · subst e
    rw [List.getElem?_set_self (get_lt h)] at h1
    cases h1
    rw [ha] at h2; cases h2
    exact hc
  · rw [List.getElem?_set_ne (Ne.symm e)] at h1
    have nb : b ≠ a := fun z => e (nd_inj R.nd (z ▸ h2) ha)
    exact (R.cell m d b h1 h2).keep (fun q z => by rw [upd_ne nb]; exact z) (Ext.setCell (c' := c') (o := o) R h al ha).kp ⟨[], by simp⟩
/-- the cell l is let go: what stands there never changes any more -/
theorem Ext.kill (R : RelS G ρ S H) (h : S[l]? = some c) (al : alive c = true) : Ext ρ S H ρ (S.set l .dead) H :=
  ⟨⟨[], by simp⟩, fun b q hb _ => hb, fun b hb => .inl (live_set R h al b hb), fun b hb => hb, fun _ _ _ => rfl⟩
theorem RelS.kill (R : RelS G ρ S H) (h : S[l]? = some c) (al : alive c = true) : RelS G ρ (S.set l .dead) H := by
  refine ⟨by rw [List.length_set]; exact R.len, R.nd, fun m d b h1 h2 => ?_, R.dom, R.res⟩
  by_cases e : m = l
  · subst e
    rw [List.getElem?_set_self (get_lt h)] at h1
    cases h1; exact .dead
  · rw [List.getElem?_set_ne (Ne.symm e)] at h1
    exact (R.cell m d b h1 h2).keep (fun q z => z) (Ext.kill R h al).kp ⟨[], by simp⟩
theorem not_live_kill (R : RelS G ρ S H) (ha : ρ.l[l]? = some a) (hl : l < S.length) : ¬ Live ρ (S.set l .dead) a := by
  rintro (f | ⟨m, d, h1, h2, h3⟩)
  · exact (R.res a f).2 (List.mem_of_getElem? ha)
  have e := nd_inj R.nd h3 ha
  subst e
  rw [List.getElem?_set_self hl] at h1
  cases h1; cases h2
/-- a new cell -/
theorem live_app (R : RelS G ρ S H) : ∀ b, Live (ρ.app [p]) (S ++ [c]) b → Live ρ S b ∨ b = p := by
  rintro b (f | ⟨m, d, h1, h2, h3⟩)
  · exact .inl (.inl f)
  replace h3 : (ρ.l ++ [p])[m]? = some b := h3
  by_cases e : m < S.length
  · rw [List.getElem?_append_left e] at h1
    rw [List.getElem?_append_left (by rw [R.len]; exact e)] at h3
    exact .inl (.inr ⟨m, d, h1, h2, h3⟩)
  · have hm : m = S.length := by
      have := get_lt h1
      rw [List.length_append, List.length_singleton] at this
      omega
    subst hm
    rw [← R.len, List.getElem?_concat_length] at h3
    cases h3
    exact .inr rfl
theorem Ext.newCell (R : RelS G ρ S H) (hp : H p = none) : Ext ρ S H (ρ.app [p]) (S ++ [c]) (upd H p o) :=
  ⟨⟨[p], rfl⟩, fun b q h _ => upd_some hp h, fun b h => by
    rcases live_app R b h with z | z
    · exact .inl z
    · exact .inr (z ▸ hp), fun b h => upd_dom h, fun b _ h => upd_ne (fun e => h (e ▸ hp))⟩
theorem RelS.newCell (R : RelS G ρ S H) (hp : H p = none) (hc : RelC G (Live (ρ.app [p]) (S ++ [c])) (ρ.app [p]) (upd H p o) c p) : RelS G (ρ.app [p]) (S ++ [c]) (upd H p o) := by
  refine ⟨by simp [Rho.app, R.len], ?_, fun m d b h1 h2 => ?_, fun b hb => ?_, fun b f => ⟨upd_dom (R.res b f).1, fun hm => ?_⟩⟩
  · show (ρ.l ++ [p]).Nodup
    rw [List.nodup_append]
    refine ⟨R.nd, by simp, fun x hx y hy e => ?_⟩
    simp at hy
    rw [e, hy] at hx
    exact R.notin hp hx
  · replace h2 : (ρ.l ++ [p])[m]? = some b := h2
    by_cases e : m < S.length
    · rw [List.getElem?_append_left e] at h1
      rw [List.getElem?_append_left (by rw [R.len]; exact e)] at h2
      exact (R.cell m d b h1 h2).keep (fun q z => upd_some hp z) (Ext.newCell (c := c) (o := o) R hp).kp ⟨[p], rfl⟩
    · have hm : m = S.length := by
        have := get_lt h1
        rw [List.length_append, List.length_singleton] at this
        omega
      subst hm
      rw [List.getElem?_concat_length] at h1
      cases h1
      rw [← R.len, List.getElem?_concat_length] at h2
      cases h2
      exact hc
  · replace hb : b ∈ ρ.l ++ [p] := hb
    rw [List.mem_append] at hb
    rcases hb with z | z
    · exact upd_dom (R.dom b z)
    · simp at z
      subst z
      rw [upd_same]; simp
  · replace hm : b ∈ ρ.l ++ [p] := hm
    rw [List.mem_append] at hm
    rcases hm with z | z
    · exact (R.res b f).2 z
    · simp at z
      subst z
      exact (R.res b f).1 hp

/-! ### names -/
theorem get_set_some {α : Type} {xs : List (Option α)} {i j : Nat} {x y : α} (h : (xs.set i (some x))[j]? = some (some y)) : (j = i ∧ y = x) ∨ (j ≠ i ∧ xs[j]? = some (some y)) := by
  by_cases e : j = i
  · subst e
    have hl : j < xs.length := by
      have := get_lt h
      rwa [List.length_set] at this
    rw [List.getElem?_set_self hl] at h
    cases h; exact .inl ⟨rfl, rfl⟩
  · rw [List.getElem?_set_ne (Ne.symm e)] at h
    exact .inr ⟨e, h⟩
theorem RelAll.set {η : Env} {σ : St} {i : Nat} {w : W} {v : V} (R : RelAll G ex ρ η S σ H) (r : RelW G ex (Live ρ S) ρ H w v) (hi : i < η.length) : RelAll G ex ρ (η.set i (some w)) S (σ.set i (some v)) H := by
  refine ⟨R.st, by rw [List.length_set, List.length_set]; exact R.len, fun j u h => ?_⟩
  rcases get_set_some h with ⟨e, e2⟩ | ⟨e, e2⟩
  · subst e; subst e2
    exact ⟨v, by rw [List.getElem?_set_self (by rw [← R.len]; exact hi)], r⟩
  · obtain ⟨x, e3, r3⟩ := R.slot j u e2
    exact ⟨x, by rw [List.getElem?_set_ne (Ne.symm e)]; exact e3, r3⟩
theorem RelAll.unset {η : Env} {σ : St} {i : Nat} (R : RelAll G ex ρ η S σ H) : RelAll G ex ρ (η.set i none) S (σ.set i none) H := by
  refine ⟨R.st, by rw [List.length_set, List.length_set]; exact R.len, fun j u h => ?_⟩
  by_cases e : j = i
  · subst e
    have hl : j < η.length := by
      have := get_lt h
      rwa [List.length_set] at this
    rw [List.getElem?_set_self hl] at h
    cases h
  · rw [List.getElem?_set_ne (Ne.symm e)] at h
    obtain ⟨x, e3, r3⟩ := R.slot j u h
    exact ⟨x, by rw [List.getElem?_set_ne (Ne.symm e)]; exact e3, r3⟩
theorem RelAll.get {η : Env} {σ : St} {i : Nat} {w : W} (R : RelAll G ex ρ η S σ H) (h : getV η i = some w) : ∃ v, σ[i]? = some (some v) ∧ RelW G ex (Live ρ S) ρ H w v := by
  refine R.slot i w ?_
  unfold getV at h
  split at h
  · next e => cases h; exact e
  · cases h
theorem RelAll.wipe {η : Env} {σ : St} (R : RelAll G ex ρ η S σ H) : ∀ vs : List Nat, RelAll G ex ρ (wipeE η vs) S (wipe σ vs) H
  | [] => R
  | v :: vs => (RelAll.wipe R vs).unset
theorem RelDs.length {L : Addr → Prop} : ∀ {xs : List D} {vs : List V}, RelDs G L H xs vs → xs.length = vs.length
  | _, _, .nil => rfl
  | _, _, .cons _ h => by simp [RelDs.length h]
theorem RelDs.append {L : Addr → Prop} : ∀ {xs ys : List D} {vs us : List V}, RelDs G L H xs vs → RelDs G L H ys us → RelDs G L H (xs ++ ys) (vs ++ us)
  | _, _, _, _, .nil, h => h
  | _, _, _, _, .cons a h, h2 => .cons a (RelDs.append h h2)
theorem RelDs.get {L : Addr → Prop} : ∀ {xs : List D} {vs : List V} {i : Nat} {x : D}, RelDs G L H xs vs → xs[i]? = some x → ∃ v, vs[i]? = some v ∧ RelD G L H x v
  | _, _, _, _, .nil, e => by simp at e
  | _, _, 0, _, .cons a h, e => by simp at e; subst e; exact ⟨_, rfl, a⟩
  | _, _, i + 1, x, .cons a h, e => by
    obtain ⟨v, h1, h2⟩ := RelDs.get (i := i) (x := x) h (by simpa using e)
    exact ⟨v, by simpa using h1, h2⟩
theorem RelDs.take {L : Addr → Prop} : ∀ {xs : List D} {vs : List V} (n : Nat), RelDs G L H xs vs → RelDs G L H (xs.take n) (vs.take n)
  | _, _, 0, _ => .nil
  | _, _, _ + 1, .nil => .nil
  | _, _, n + 1, .cons a h => .cons a (RelDs.take n h)
theorem RelDs.drop {L : Addr → Prop} : ∀ {xs : List D} {vs : List V} (n : Nat), RelDs G L H xs vs → RelDs G L H (xs.drop n) (vs.drop n)
  | _, _, 0, h => h
  | _, _, _ + 1, .nil => .nil
  | _, _, n + 1, .cons _ h => RelDs.drop n h
theorem RelDs.set {L : Addr → Prop} {x : D} {v : V} (r : RelD G L H x v) : ∀ {xs : List D} {vs : List V} (i : Nat), RelDs G L H xs vs → RelDs G L H (xs.set i x) (vs.set i v)
  | _, _, _, .nil => .nil
  | _, _, 0, .cons _ h => .cons r h
  | _, _, i + 1, .cons a h => .cons a (RelDs.set r i h)
theorem RelDs.erase {L : Addr → Prop} : ∀ {xs : List D} {vs : List V} (i : Nat), RelDs G L H xs vs → RelDs G L H (xs.eraseIdx i) (vs.eraseIdx i)
  | _, _, _, .nil => .nil
  | _, _, 0, .cons _ h => h
  | _, _, i + 1, .cons a h => .cons a (RelDs.erase i h)
theorem RelDs.rep {L : Addr → Prop} {xs : List D} {vs : List V} (h : RelDs G L H xs vs) : ∀ n : Nat, RelDs G L H (List.replicate n xs).flatten (List.replicate n vs).flatten
  | 0 => .nil
  | n + 1 => by
    simp only [List.replicate_succ, List.flatten_cons]
    exact h.append (RelDs.rep h n)
theorem RelDs.ints {L : Addr → Prop} : ∀ (ns : List Int), RelDs G L H (ns.map D.int) (ns.map V.int)
  | [] => .nil
  | n :: ns => .cons (.int n) (RelDs.ints ns)
theorem RelDs.cut {L : Addr → Prop} {xs : List D} {vs : List V} (h : RelDs G L H xs vs) (lo hi : Option Int) : RelDs G L H (cut xs lo hi) (cutV vs lo hi) := by
  unfold RI.cut L2.cutV
  rw [h.length]
  exact (h.drop _).take _
theorem RelWs.length {L : Addr → Prop} : ∀ {xs : List W} {vs : List V}, RelWs G ex L ρ H xs vs → xs.length = vs.length
  | _, _, .nil => rfl
  | _, _, .cons _ h => by simp [RelWs.length h]
theorem RelWs.get {L : Addr → Prop} : ∀ {xs : List W} {vs : List V} {i : Nat} {x : W}, RelWs G ex L ρ H xs vs → xs[i]? = some x → ∃ v, vs[i]? = some v ∧ RelW G ex L ρ H x v
  | _, _, _, _, .nil, e => by simp at e
  | _, _, 0, _, .cons a h, e => by simp at e; subst e; exact ⟨_, rfl, a⟩
  | _, _, i + 1, x, .cons a h, e => by
    obtain ⟨v, h1, h2⟩ := RelWs.get (i := i) (x := x) h (by simpa using e)
    exact ⟨v, by simpa using h1, h2⟩
theorem RelWs.set {L : Addr → Prop} {x : W} {v : V} (r : RelW G ex L ρ H x v) : ∀ {xs : List W} {vs : List V} (i : Nat), RelWs G ex L ρ H xs vs → RelWs G ex L ρ H (xs.set i x) (vs.set i v)
  | _, _, _, .nil => .nil
  | _, _, 0, .cons _ h => .cons r h
  | _, _, i + 1, .cons a h => .cons a (RelWs.set r i h)
end

/-! ### data out of cells -/
section
variable {G : Wd} {ex : Ex} {ρ : Rho} {S : Store} {H : Hp} {w : W} {v : V} {x : D}
theorem RelFw.ds {L : Addr → Prop} : ∀ {fs : List (Nat × W)} {ds : List (Nat × D)} {vs : List (Str × V)}, RelFw G L ρ H fs vs → wsD fs = some ds → RelFs G L H ds vs
  | [], ds, _, .nil, h => by simp only [wsD] at h; cases h; exact .nil
  | (f, .d x) :: r, ds, _, .cons a hs, h => by
    simp only [wsD] at h
    cases e : wsD r with
    | none => rw [e] at h; cases h
    | some d2 =>
      rw [e] at h; cases h
      cases a with
      | d a => exact .cons a (RelFw.ds hs e)
  | (f, .loc l) :: r, ds, _, .cons a hs, h => by simp [wsD] at h
  | (f, .scr l) :: r, ds, _, .cons a hs, h => by simp [wsD] at h
  | (f, .exn c l) :: r, ds, _, .cons a hs, h => by simp [wsD] at h
theorem RelC.data {L L' : Addr → Prop} {c : Cell} {a : Addr} (k : Kp L H L' H) (h : RelC G L ρ H c a) (e : cellD c = some x) (n : ¬ L' a) : RelD G L' H x (.ref a) := by
  cases h with
  | lst h hs => simp only [cellD] at e; cases e; exact .lst h n (hs.mono k)
  | lsw h hs => simp [cellD] at e
  | dct h hs => simp only [cellD] at e; cases e; exact .dic h n (hs.mono k)
  | dtt h hs => simp [cellD] at e
  | ins hx h hs =>
    simp only [cellD, Option.map_eq_some_iff] at e
    obtain ⟨ds, e1, e2⟩ := e
    subst e2
    exact .obj hx h n ((hs.ds e1).mono k)
  | dead => simp [cellD] at e
theorem alive_of {c : Cell} (e : cellD c = some x) : alive c = true := by
  cases c <;> simp [cellD, alive] at *
/-- the heap stays, the cells of what became data are let go -/
theorem toD_ok {S' : Store} (R : RelS G ρ S H) (r : RelW G ex (Live ρ S) ρ H w v) (h : toD w S = .ok x S') : Ext ρ S H ρ S' H ∧ RelS G ρ S' H ∧ RelD G (Live ρ S') H x v := by
  cases w with
  | d y =>
    simp only [toD] at h; cases h
    cases r with
    | d r => exact ⟨.refl, R, r⟩
  | loc l =>
    simp only [toD] at h
    split at h
    · next y e =>
      cases h
      cases r with
      | loc ra =>
        cases hc : S[l]? with
        | none => rw [hc] at e; simp at e
        | some c =>
          rw [hc] at e
          simp only [Option.bind_some] at e
          have al := alive_of e
          refine ⟨.kill R hc al, R.kill hc al, ?_⟩
          exact (R.cell l c _ hc ra).data (Ext.kill R hc al).kp e (not_live_kill R ra (get_lt hc))
    · cases h
  | scr ns => simp [toD] at h
  | exn c fs => simp [toD] at h
theorem toD_cases (w : W) (S : Store) : (∃ x S', toD w S = .ok x S') ∨ toD w S = .stk := by
  cases w with
  | d y => exact .inl ⟨_, _, rfl⟩
  | loc l =>
    simp only [toD]
    split
    · exact .inl ⟨_, _, rfl⟩
    · exact .inr rfl
  | scr ns => exact .inr rfl
  | exn c fs => exact .inr rfl
theorem toDs_ok : ∀ {ws : List W} {vs : List V} {xs : List D} {S S' : Store}, RelS G ρ S H → RelWs G ex (Live ρ S) ρ H ws vs → toDs ws S = .ok xs S' → Ext ρ S H ρ S' H ∧ RelS G ρ S' H ∧ RelDs G (Live ρ S') H xs vs
  | [], _, xs, S, S', R, .nil, h => by
    simp only [toDs] at h; cases h
    exact ⟨.refl, R, .nil⟩
  | w :: ws, _, xs, S, S', R, .cons r rs, h => by
    simp only [toDs] at h
    rcases toD_cases w S with ⟨x, S1, e⟩ | e
    · rw [e] at h
      simp only [Res.bind_ok] at h
      obtain ⟨E1, R1, r1⟩ := toD_ok R r e
      cases e2 : toDs ws S1 with
      | ok ys S2 =>
        rw [e2] at h
        simp only [Res.bind_ok] at h
        cases h
        obtain ⟨E2, R2, r2⟩ := toDs_ok R1 (rs.mono E1.kp E1.pre) e2
        exact ⟨E1.trans E2, R2, .cons (r1.mono E2.kp) r2⟩
      | exc c fs S2 => rw [e2] at h; cases h
      | stk => rw [e2] at h; cases h
    · rw [e] at h; cases h
theorem toDs_exc : ∀ {ws : List W} {S : Store} {c : Nat} {fs : List (Nat × D)} {S' : Store}, toDs ws S ≠ .exc c fs S'
  | [], S, c, fs, S' => by simp [toDs]
  | w :: ws, S, c, fs, S' => by
    simp only [toDs]
    rcases toD_cases w S with ⟨x, S1, e⟩ | e
    · rw [e]
      simp only [Res.bind_ok]
      cases e2 : toDs ws S1 with
      | ok ys S2 => simp
      | exc c2 fs2 S2 => exact absurd e2 toDs_exc
      | stk => simp
    · rw [e]; simp
end
section
variable {G : Wd} {ex : Ex} {Wx : XK} {ρ : Rho} {S : Store} {H : Hp} {α : Type} {Q : α → Rho → Store → Hp → Prop}
theorem Sat.toD_bind {w : W} {v : V} {f : D → Store → Res α} (R : RelS G ρ S H) (r : RelW G ex (Live ρ S) ρ H w v) (h : Sat G Wx ρ S H ((toD w S).bind f) Q) :
    ∃ x S1, Ext ρ S H ρ S1 H ∧ RelS G ρ S1 H ∧ RelD G (Live ρ S1) H x v ∧ Sat G Wx ρ S1 H (f x S1) Q := by
  rcases toD_cases w S with ⟨x, S1, e⟩ | e
  · obtain ⟨E1, R1, r1⟩ := toD_ok R r e
    rw [e] at h
    exact ⟨x, S1, E1, R1, r1, h.from E1⟩
  · rw [e] at h; exact h.elim
theorem Sat.toDs_bind {ws : List W} {vs : List V} {f : List D → Store → Res α} (R : RelS G ρ S H) (r : RelWs G ex (Live ρ S) ρ H ws vs) (h : Sat G Wx ρ S H ((toDs ws S).bind f) Q) :
    ∃ xs S1, Ext ρ S H ρ S1 H ∧ RelS G ρ S1 H ∧ RelDs G (Live ρ S1) H xs vs ∧ Sat G Wx ρ S1 H (f xs S1) Q := by
  cases e : toDs ws S with
  | ok xs S1 =>
    obtain ⟨E1, R1, r1⟩ := toDs_ok R r e
    rw [e] at h
    exact ⟨xs, S1, E1, R1, r1, h.from E1⟩
  | exc c fs S' => exact absurd e toDs_exc
  | stk => rw [e] at h; exact h.elim
end
end RI
/-! RI5: the operations, by the rules of the hand layer. -/
namespace RI
open PySem PySem.Spec PyProof.Rows L2

theorem line_eq : line = sizeLine := rfl
theorem str_len (s : List Nat) : (Str' s).length = s.length := by show s.toArray.size = s.length; simp
theorem str_app (s t : List Nat) : Str' s ++ Str' t = Str' (s ++ t) := by
  show (⟨s.toArray ++ t.toArray⟩ : Str) = ⟨(s ++ t).toArray⟩
  simp
theorem str_inj {s t : List Nat} (h : Str' s = Str' t) : s = t := by
  have e : (Str' s).cps.toList = (Str' t).cps.toList := by rw [h]
  simpa using e

section
variable {G : Wd} {ex : Ex}
/-- data come out of a two-place operation -/
def rD2 (G : Wd) (ex : Ex) (f : W → W → Store → Option D) : R2 := fun x y H Q => ∃ ρ S a b z, RelS G ρ S H ∧ RelW G ex (Live ρ S) ρ H a x ∧ RelW G ex (Live ρ S) ρ H b y ∧ f a b S = some z ∧
  ∀ v H', Ext ρ S H ρ S H' → RelS G ρ S H' → RelD G (Live ρ S) H' z v → Q v H'
def rB2 (G : Wd) (ex : Ex) (f : W → W → Store → Option Bool) : R2 := fun x y H Q => ∃ ρ S a b z, RelS G ρ S H ∧ RelW G ex (Live ρ S) ρ H a x ∧ RelW G ex (Live ρ S) ρ H b y ∧ f a b S = some z ∧ Q (.bl z) H

variable {ρ : Rho} {S : Store} {H : Hp} {L : Addr → Prop} {w : W} {v : V}
theorem RelD.int_inv {i : Int} (h : RelD G L H (.int i) v) : v = .int i := by cases h; rfl
theorem RelD.bl_inv {i : Bool} (h : RelD G L H (.bl i) v) : v = .bl i := by cases h; rfl
theorem RelD.str_inv {i : List Nat} (h : RelD G L H (.str i) v) : v = .str (Str' i) := by cases h; rfl
theorem RelD.non_inv (h : RelD G L H .non v) : v = .non := by cases h; rfl
theorem RelW.d_inv {x : D} (h : RelW G ex L ρ H (.d x) v) : RelD G L H x v := by cases h; assumption
theorem RelD.tup_inv {xs : List D} (h : RelD G L H (.tup xs) v) : ∃ a vs, v = .ref a ∧ TpN G.K H a vs ∧ RelDs G L H xs vs := by cases h; exact ⟨_, _, rfl, ‹_›, ‹_›⟩
theorem RelD.lst_inv {xs : List D} (h : RelD G L H (.lst xs) v) : ∃ a vs, v = .ref a ∧ H a = some (.lst vs) ∧ ¬ L a ∧ RelDs G L H xs vs := by cases h; exact ⟨_, _, rfl, ‹_›, ‹_›, ‹_›⟩
/-- a list -/
theorem RelW.lstOf {xs : List D} (R : RelS G ρ S H) (h : RelW G ex (Live ρ S) ρ H w v) (e : lstOf w S = some xs) : ∃ a vs, v = .ref a ∧ H a = some (.lst vs) ∧ RelDs G (Live ρ S) H xs vs := by
  cases w with
  | d x =>
    cases x <;> simp only [RI.lstOf] at e <;> try cases e
    obtain ⟨a, vs, e1, e2, _, e3⟩ := h.d_inv.lst_inv
    exact ⟨a, vs, e1, e2, e3⟩
  | loc l =>
    simp only [RI.lstOf] at e
    split at e
    · next ys e1 =>
      cases e
      cases h with
      | loc ha =>
        cases R.cell l _ _ e1 ha with
        | lst h1 h2 => exact ⟨_, _, rfl, h1, h2⟩
    · cases e
  | scr ns => simp [RI.lstOf] at e
  | exn c fs => simp [RI.lstOf] at e
/-- a sequence, to be read -/
theorem RelW.seqOf {k : SK} {xs : List D} (R : RelS G ρ S H) (h : RelW G ex (Live ρ S) ρ H w v) (e : seqOf w S = some (k, xs)) :
    ∃ a vs, v = .ref a ∧ ((k = .tup ∧ TpN G.K H a vs) ∨ (k = .lst ∧ SqL G.K H a vs)) ∧ RelDs G (Live ρ S) H xs vs := by
  cases w with
  | d x =>
    cases x <;> simp only [RI.seqOf] at e <;> try cases e
    · obtain ⟨a, vs, e1, e2, e3⟩ := h.d_inv.tup_inv
      exact ⟨a, vs, e1, .inl ⟨rfl, e2⟩, e3⟩
    · obtain ⟨a, vs, e1, e2, _, e3⟩ := h.d_inv.lst_inv
      exact ⟨a, vs, e1, .inr ⟨rfl, SqL.of e2⟩, e3⟩
  | loc l =>
    simp only [RI.seqOf] at e
    split at e
    · next ys e1 =>
      cases e
      cases h with
      | loc ha =>
        cases R.cell l _ _ e1 ha with
        | lst h1 h2 => exact ⟨_, _, rfl, .inr ⟨rfl, SqL.of h1⟩, h2⟩
    · cases e
  | scr ns =>
    simp only [RI.seqOf] at e
    cases e
    cases h with
    | scr h => exact ⟨_, _, rfl, .inr ⟨rfl, h.sq⟩, RelDs.ints ns⟩
  | exn c fs => simp [RI.seqOf] at e
/-- a new tuple, a new list -/
theorem RelD.newTup {p : Addr} {u : HO} {xs : List D} {vs : List V} (R : RelS G ρ S H) (hp : H p = none) (hu : NT vs u) (h : RelDs G (Live ρ S) H xs vs) : RelD G (Live ρ S) (upd H p u) (.tup xs) (.ref p) :=
  .tup (.inl ⟨u, upd_same, hu⟩) (h.mono (Ext.newObj (ρ := ρ) (S := S) hp).kp)
theorem RelD.newLst {p : Addr} {xs : List D} {vs : List V} (R : RelS G ρ S H) (hp : H p = none) (h : RelDs G (Live ρ S) H xs vs) : RelD G (Live ρ S) (upd H p (.lst vs)) (.lst xs) (.ref p) :=
  .lst upd_same (R.fresh hp) (h.mono (Ext.newObj (ρ := ρ) (S := S) hp).kp)


theorem RelDs.flat {L : Addr → Prop} {x : D} {v : V} (h : RelD G L H x v) (f : flatD x = true) : flatV v = true ∧ ∀ {y : D} {u : V}, RelD G L H y u → flatD y = true → eqV u v = eqF y x := by
  cases h <;> simp only [flatD] at f <;> try cases f
  all_goals refine ⟨rfl, fun {y u} hy fy => ?_⟩
  all_goals cases hy <;> simp only [flatD] at fy <;> try cases fy
  all_goals try rfl
  all_goals simp only [eqV, eqF]
  all_goals rw [Bool.eq_iff_iff]
  all_goals simp only [beq_iff_eq]
  all_goals exact ⟨fun q => str_inj q, fun q => by rw [q]⟩
theorem RelDs.allFlat {L : Addr → Prop} : ∀ {xs : List D} {vs : List V}, RelDs G L H xs vs → xs.all flatD = true → vs.all flatV = true
  | _, _, .nil, _ => rfl
  | _, _, .cons a h, f => by
    simp only [List.all_cons, Bool.and_eq_true] at f ⊢
    exact ⟨(RelDs.flat a f.1).1, RelDs.allFlat h f.2⟩
theorem RelDs.anyEq {L : Addr → Prop} {x : D} {v : V} (r : RelD G L H x v) (fx : flatD x = true) : ∀ {xs : List D} {vs : List V}, RelDs G L H xs vs → xs.all flatD = true → inV v vs = xs.any fun y => eqF y x
  | _, _, .nil, _ => rfl
  | _, _, .cons a h, f => by
    simp only [List.all_cons, Bool.and_eq_true] at f
    show (eqV _ v || inV v _) = _
    rw [(RelDs.flat r fx).2 a f.1, RelDs.anyEq r fx h f.2]
    rfl
mutual
theorem RelD.dp {L : Addr → Prop} : ∀ {x : D} {v : V} {p : PyData}, RelD G L H x v → toPD x = some p → Dp G.K H v p
  | _, _, _, .non, e => by simp only [toPD] at e; cases e; exact .non
  | _, _, _, .bl b, e => by simp only [toPD] at e; cases e; exact .bl b
  | _, _, _, .int i, e => by simp only [toPD] at e; cases e; exact .int i
  | _, _, _, .str s, e => by simp only [toPD] at e; cases e; exact .str _
  | _, _, _, .tup h hs, e => by
    simp only [toPD, Option.map_eq_some_iff] at e
    obtain ⟨ds, e1, e2⟩ := e
    subst e2
    exact .tup h.sq (RelDs.dp hs e1)
  | _, _, _, .lst h _ hs, e => by
    simp only [toPD, Option.map_eq_some_iff] at e
    obtain ⟨ds, e1, e2⟩ := e
    subst e2
    exact .lst (SqL.of h) (RelDs.dp hs e1)
  | _, _, _, .dic _ _ _, e => by simp [toPD] at e
  | _, _, _, .obj _ _ _ _, e => by simp [toPD] at e
  | _, _, _, .fn _, e => by simp [toPD] at e
theorem RelDs.dp {L : Addr → Prop} : ∀ {xs : List D} {vs : List V} {ps : List PyData}, RelDs G L H xs vs → toPDs xs = some ps → DpAll G.K H vs ps
  | _, _, _, .nil, e => by simp only [toPDs] at e; cases e; exact .nil
  | _, _, _, .cons a h, e => by
    simp only [toPDs] at e
    split at e
    · next p ps e1 e2 =>
      cases e
      exact .cons (RelD.dp a e1) (RelDs.dp h e2)
    · cases e
end

variable {X : Cx} {a b : W} {z : D} {o : BOp}
abbrev BOp.op : BOp → Operator
  | .add => .Add | .sub => .Sub | .mul => .Mult | .fdiv => .FloorDiv | .mod => .Mod | .pow => .Pow
theorem add_str (s t : List Nat) : (V.str (Str' s ++ Str' t)) = V.str (Str' (s ++ t)) := by rw [str_app]
/-- a long division that stays plain: the top is short enough -/
theorem plain_top {x y : Int} (h : x.natAbs.log2 < 13500) : Builtin.divisionGoesByPylong x y = false := by
  have dx : (if x == 0 then 0 else x.natAbs.log2 / 30 + 1) ≤ 450 := by
    split
    · exact Nat.zero_le _
    · omega
  unfold Builtin.divisionGoesByPylong
  simp only [Bool.and_eq_false_iff, decide_eq_false_iff_not]
  generalize (if x == 0 then 0 else x.natAbs.log2 / 30 + 1) = m at dx ⊢
  generalize (if y == 0 then 0 else y.natAbs.log2 / 30 + 1) = k
  omega
theorem op_fdivA : OpR X (binaryOp .FloorDiv) (rI (fun i j => j ≠ 0 ∧ (j.natAbs.log2 < 9000 ∨ i.natAbs.log2 < 13500)) fun i j => .int (i.fdiv j)) := opI fun _ _ _ _ _ _ _ hc q => floordiv_int hc.1 q (.inl (hc.2.elim PyProof.noPylong_of_log2 plain_top))
theorem or_add (hK : X.K = G.K) : OpR X (binaryOp .Add) (rD2 G ex addD) := by
  rintro pins s σ H x y v u Q I rx ry ⟨ρ, S, a, b, z, R, ra, rb, e, k⟩
  unfold addD at e
  split at e
  · cases e
    have q1 := ra.d_inv.int_inv; have q2 := rb.d_inv.int_inv
    subst q1; subst q2
    exact op_add pins s σ H _ _ v u Q I rx ry ⟨_, _, rfl, rfl, k _ H .refl R (.int _)⟩
  · next s1 t1 =>
    split at e
    · next hl =>
      cases e
      have q1 := ra.d_inv.str_inv; have q2 := rb.d_inv.str_inv
      subst q1; subst q2
      refine op_add_str pins s σ H _ _ v u Q I rx ry ⟨_, _, rfl, rfl, by rw [str_len, str_len]; exact hl, ?_⟩
      rw [str_app]
      exact k _ H .refl R (.str _)
    · cases e
  · next s1 t1 =>
    split at e
    · next hl =>
      cases e
      obtain ⟨p, vs, rfl, h1, r1⟩ := ra.d_inv.tup_inv
      obtain ⟨q, us, rfl, h2, r2⟩ := rb.d_inv.tup_inv
      refine op_catN pins s σ H _ _ v u Q I rx ry ⟨_, _, vs, us, rfl, rfl, hK ▸ h1.sq, hK ▸ h2.sq, by rw [← r1.length, ← r2.length]; exact hl, fun e1 => ?_, fun _ e2 => ?_, fun e1 e2 p u hp hu => ?_⟩
      · subst e1
        cases r1
        exact k _ H .refl R (by simpa using rb.d_inv)
      · subst e2
        cases r2
        exact k _ H .refl R (by simpa using ra.d_inv)
      · exact k _ _ (.newObj hp) (R.newObj hp) (.newTup R hp hu (r1.append r2))
    · cases e
  · split at e
    · next s1 t1 e1 e2 =>
      split at e
      · next hl =>
        cases e
        obtain ⟨p, vs, rfl, h1, r1⟩ := ra.lstOf R e1
        obtain ⟨q, us, rfl, h2, r2⟩ := rb.lstOf R e2
        refine op_cat pins s σ H _ _ v u Q I rx ry ⟨_, _, vs, us, rfl, rfl, h1, h2, by rw [← r1.length, ← r2.length]; exact hl, fun p hp => ?_⟩
        exact k _ _ (.newObj hp) (R.newObj hp) (.newLst R hp (r1.append r2))
      · cases e
    · cases e
theorem or_bin (hK : X.K = G.K) : OpR X (binaryOp o.op) (rD2 G ex (binD o)) := by
  cases o with
  | add => exact or_add hK
  | sub =>
    rintro pins s σ H x y v u Q I rx ry ⟨ρ, S, a, b, z, R, ra, rb, e, k⟩
    simp only [binD, subD] at e
    split at e
    · cases e
      have q1 := ra.d_inv.int_inv; have q2 := rb.d_inv.int_inv
      subst q1; subst q2
      exact op_sub pins s σ H _ _ v u Q I rx ry ⟨_, _, rfl, rfl, k _ H .refl R (.int _)⟩
    · cases e
  | mul =>
    rintro pins s σ H x y v u Q I rx ry ⟨ρ, S, a, b, z, R, ra, rb, e, k⟩
    simp only [binD] at e
    unfold mulD at e
    split at e
    · next i j =>
      split at e
      · next hb =>
        cases e
        have q1 := ra.d_inv.int_inv; have q2 := rb.d_inv.int_inv
        subst q1; subst q2
        exact op_mulW pins s σ H _ _ v u Q I rx ry ⟨_, _, rfl, rfl, (by unfold CMulW; simpa [bitsOk] using hb), k _ H .refl R (.int _)⟩
      · cases e
    · next s1 j =>
      split at e
      · next hl =>
        cases e
        obtain ⟨p, vs, rfl, h1, r1⟩ := ra.d_inv.tup_inv
        have q2 := rb.d_inv.int_inv
        subst q2
        by_cases hs : s1 = [] ∨ j ≤ 1
        · have hv : vs = [] ∨ j ≤ 1 := by
            rcases hs with z | z
            · subst z; cases r1; exact .inl rfl
            · exact .inr z
          refine op_rep1 pins s σ H _ _ v u Q I rx ry ⟨_, _, vs, rfl, rfl, hK ▸ h1.sq, hl.1, by have := hl.2.1; omega, fun hw => ?_, fun hx hk p u hp hu => ?_, hv⟩
          · have e0 : rep j s1 = s1 := by
              rcases hw with z | z
              · subst z; cases r1; simp [rep]
              · subst z; simp [rep]
            rw [e0] at k
            exact k _ H .refl R ra.d_inv
          · have e0 : rep j s1 = [] := by
              have : j.toNat = 0 := by omega
              simp [rep, this]
            rw [e0] at k
            exact k _ _ (.newObj hp) (R.newObj hp) (.newTup R hp hu .nil)
        · have h2 : s1 ≠ [] ∧ 2 ≤ j := ⟨fun z => hs (.inl z), by
            have : ¬ j ≤ 1 := fun z => hs (.inr z)
            omega⟩
          have hn : vs ≠ [] := fun z => by subst z; cases r1; exact h2.1 rfl
          exact op_repN pins s σ H _ _ v u Q I rx ry ⟨_, _, vs, rfl, rfl, hK ▸ h1.sq, hn, h2.2, hl.2.1, by rw [← r1.length]; exact hl.2.2, fun p u hp hu => k _ _ (.newObj hp) (R.newObj hp) (.newTup R hp hu (r1.rep _))⟩
      · cases e
    · next j _ _ =>
      split at e
      · next s1 e1 =>
        split at e
        · next hl =>
          cases e
          obtain ⟨p, vs, rfl, h1, r1⟩ := ra.lstOf R e1
          have q2 := rb.d_inv.int_inv
          subst q2
          exact op_rep pins s σ H _ _ v u Q I rx ry ⟨_, _, vs, rfl, rfl, h1, hl.2.1, hl.2.2, by rw [← r1.length]; exact hl.1, fun p hp => k _ _ (.newObj hp) (R.newObj hp) (.newLst R hp (r1.rep _))⟩
        · cases e
      · cases e
    · cases e
  | fdiv =>
    rintro pins s σ H x y v u Q I rx ry ⟨ρ, S, a, b, z, R, ra, rb, e, k⟩
    simp only [binD, fdivD] at e
    split at e
    · next i j =>
      split at e
      · next hj =>
        cases e
        have q1 := ra.d_inv.int_inv; have q2 := rb.d_inv.int_inv
        subst q1; subst q2
        rcases hj with hj | hj
        · refine op_fdivW pins s σ H _ _ v u Q I rx ry ⟨_, _, rfl, rfl, hj, ?_⟩
          have e1 : i.fdiv j = i / j := Int.fdiv_eq_ediv_of_nonneg _ (Int.le_of_lt hj.1)
          show Q (V.int (i / j)) H
          rw [← e1]
          exact k _ H .refl R (.int _)
        · exact op_fdivA pins s σ H _ _ v u Q I rx ry ⟨_, _, rfl, rfl, hj, k _ H .refl R (.int _)⟩
      · cases e
    · cases e
  | mod =>
    rintro pins s σ H x y v u Q I rx ry ⟨ρ, S, a, b, z, R, ra, rb, e, k⟩
    simp only [binD, modD] at e
    split at e
    · next i j =>
      split at e
      · next hj =>
        cases e
        have q1 := ra.d_inv.int_inv; have q2 := rb.d_inv.int_inv
        subst q1; subst q2
        exact op_modN pins s σ H _ _ v u Q I rx ry ⟨_, _, rfl, rfl, hj, k _ H .refl R (.int _)⟩
      · cases e
    · cases e
  | pow =>
    rintro pins s σ H x y v u Q I rx ry ⟨ρ, S, a, b, z, R, ra, rb, e, k⟩
    simp only [binD, powD] at e
    split at e
    · next i j =>
      split at e
      · next hj =>
        cases e
        have q1 := ra.d_inv.int_inv; have q2 := rb.d_inv.int_inv
        subst q1; subst q2
        exact op_pow pins s σ H _ _ v u Q I rx ry ⟨_, _, rfl, rfl, hj, k _ H .refl R (.int _)⟩
      · cases e
    · cases e

/-! ### comparisons -/
abbrev COp.op : COp → CmpOp
  | .eq => .Eq | .ne => .NotEq | .lt => .Lt | .le => .LtE | .gt => .Gt | .ge => .GtE | .inn => .In | .nin => .NotIn
theorem dp_lst {L : Addr → Prop} {p : Addr} {xs : List D} {vs : List V} {d : PyData} (h : H p = some (.lst vs)) (hs : RelDs G L H xs vs) (e : toPD (.lst xs) = some d) : Dp G.K H (.ref p) d := by
  simp only [toPD, Option.map_eq_some_iff] at e
  obtain ⟨ds, e1, e2⟩ := e
  subst e2
  exact .lst (SqL.of h) (hs.dp e1)
theorem pyEq_inv {x y : D} {k : Bool} (e : pyEq x y = some k) : ∃ p q, toPD x = some p ∧ toPD y = some q ∧ SeqAt.shaped p = true ∧ SeqAt.shaped q = true ∧ k = PyData.eqv p q := by
  unfold pyEq at e
  split at e
  · next p q e1 e2 =>
    split at e
    · next h =>
      cases e
      simp only [Bool.and_eq_true] at h
      exact ⟨p, q, e1, e2, h.1, h.2, rfl⟩
    · cases e
  · cases e
theorem dec_strs {s t : List Nat} : decide (V.str (Str' s) = V.str (Str' t)) = decide (s = t) := by
  by_cases h : s = t
  · subst h; simp
  · have : V.str (Str' s) ≠ V.str (Str' t) := fun z => h (str_inj (by injection z))
    simp [h, this]
/-- the two sides as data -/
theorem eqD_inv {x y : V} {k : Bool} (R : RelS G ρ S H) (ra : RelW G ex (Live ρ S) ρ H a x) (rb : RelW G ex (Live ρ S) ρ H b y) (e : eqD a b S = some k) :
    (∃ s t, x = .str (Str' s) ∧ y = .str (Str' t) ∧ k = decide (s = t)) ∨ ∃ p q, Dp G.K H x p ∧ Dp G.K H y q ∧ SeqAt.shaped p = true ∧ SeqAt.shaped q = true ∧ k = PyData.eqv p q := by
  unfold eqD at e
  split at e
  · cases e
    exact .inl ⟨_, _, ra.d_inv.str_inv, rb.d_inv.str_inv, rfl⟩
  · obtain ⟨p, q, e1, e2, h1, h2, e3⟩ := pyEq_inv e
    exact .inr ⟨p, q, ra.d_inv.dp e1, rb.d_inv.dp e2, h1, h2, e3⟩
  · split at e
    · next s t e1 e2 =>
      obtain ⟨p, q, e3, e4, h1, h2, e5⟩ := pyEq_inv e
      obtain ⟨_, vs, rfl, h3, r3⟩ := ra.lstOf R e1
      obtain ⟨_, us, rfl, h4, r4⟩ := rb.lstOf R e2
      exact .inr ⟨p, q, dp_lst h3 r3 e3, dp_lst h4 r4 e4, h1, h2, e5⟩
    · cases e
theorem or_int {op : CmpOp} {p : Int → Int → Bool} (h : OpR X (compareOp op) (rI0 fun i j => .bl (p i j))) : OpR X (compareOp op) (rB2 G ex (intC p)) := by
  rintro pins s σ H x y v u Q I rx ry ⟨ρ, S, a, b, z, R, ra, rb, e, k⟩
  unfold intC at e
  split at e
  · cases e
    have q1 := ra.d_inv.int_inv; have q2 := rb.d_inv.int_inv
    subst q1; subst q2
    exact h pins s σ H _ _ v u Q I rx ry ⟨_, _, rfl, rfl, k⟩
  · cases e
theorem shaped_tup (ds : List PyData) : SeqAt.shaped (.tuple ds) = SeqAt.shaped (.list ds) := by
  unfold SeqAt.shaped
  simp [PyData.canLay0, PyData.depth]
def rInT (K : PySem.W.Frag) (neg : Bool) : R2 := fun x y H Q => ∃ d ds, Dp K H x d ∧ Dp K H y (.tuple ds) ∧ SeqAt.shaped d = true ∧ SeqAt.shaped (.tuple ds) = true ∧ Q (.bl (if neg then !ds.any fun z => PyData.eqv z d else ds.any fun z => PyData.eqv z d)) H
theorem op_inT {X : Cx} (hu : X.A.units + 65 < cLine) : OpR X (compareOp .In) (rInT X.K false) := by
  intro pins s σ H x y v u Q I rx ry h
  obtain ⟨d, ds, hd, he, sd, se, q⟩ := h
  obtain ⟨as, r1⟩ := Dp.reads I d x v hd rx
  obtain ⟨bs, r2⟩ := Dp.reads I (.tuple ds) y u he ry
  exact SeqAt.in_tuple_reads r2 r1 (SeqAt.canLay_of_shaped se) (SeqAt.canLay_of_shaped sd) (room_in_shaped sd hu) ⟨.bl _, H, I, rfl, q⟩
theorem op_notInT {X : Cx} (hu : X.A.units + 65 < cLine) : OpR X (compareOp .NotIn) (rInT X.K true) := by
  intro pins s σ H x y v u Q I rx ry h
  obtain ⟨d, ds, hd, he, sd, se, q⟩ := h
  obtain ⟨as, r1⟩ := Dp.reads I d x v hd rx
  obtain ⟨bs, r2⟩ := Dp.reads I (.tuple ds) y u he ry
  exact SeqAt.notIn_tuple_reads r2 r1 (SeqAt.canLay_of_shaped se) (SeqAt.canLay_of_shaped sd) (room_in_shaped sd hu) ⟨.bl _, H, I, rfl, q⟩
theorem in_inv {x y : V} {k : Bool} (R : RelS G ρ S H) (ra : RelW G ex (Live ρ S) ρ H a x) (rb : RelW G ex (Live ρ S) ρ H b y) (e : inD a b S = some k) :
    (∃ c t, x = .str (Str' [c]) ∧ y = .str (Str' t) ∧ k = decide (c ∈ t)) ∨
    (∃ p vs, y = .ref p ∧ (SqL G.K H p vs ∨ SqT G.K H p vs) ∧ flatV x = true ∧ vs.all flatV = true ∧ k = inV x vs) ∨
    (∃ d ds, Dp G.K H x d ∧ (Dp G.K H y (.list ds) ∨ Dp G.K H y (.tuple ds)) ∧ SeqAt.shaped d = true ∧ SeqAt.shaped (.list ds) = true ∧ k = ds.any fun z => PyData.eqv z d) := by
  unfold inD at e
  split at e
  · next c t =>
    cases e
    exact .inl ⟨c, t, ra.d_inv.str_inv, rb.d_inv.str_inv, rfl⟩
  · split at e
    · next kd ys e1 =>
      obtain ⟨p, vs, rfl, h1, r1⟩ := rb.seqOf R e1
      unfold pyIn at e
      split at e
      · next hf =>
        cases e
        simp only [Bool.and_eq_true] at hf
        refine .inr (.inl ⟨p, vs, rfl, ?_, (RelDs.flat ra.d_inv hf.1).1, RelDs.allFlat r1 hf.2, (RelDs.anyEq ra.d_inv hf.1 r1 hf.2).symm⟩)
        rcases h1 with ⟨_, h1⟩ | ⟨_, h1⟩
        · exact .inr h1.sq
        · exact .inl h1
      · split at e
        · next p1 ps e2 e3 =>
          split at e
          · next hh =>
            cases e
            rcases h1 with ⟨h0, h1⟩ | ⟨_, h1⟩
            · exact .inr (.inr ⟨p1, ps, ra.d_inv.dp e2, .inr (.tup h1.sq (r1.dp e3)), hh.1, hh.2, rfl⟩)
            · exact .inr (.inr ⟨p1, ps, ra.d_inv.dp e2, .inl (.lst h1 (r1.dp e3)), hh.1, hh.2, rfl⟩)
          · cases e
        · cases e
    · cases e
  · cases e
variable {o : COp}
theorem or_cmp (hK : X.K = G.K) (hu : X.A.units + 65 < cLine) : OpR X (compareOp o.op) (rB2 G ex (cmpD o)) := by
  cases o with
  | lt => exact or_int op_lt
  | le => exact or_int op_le
  | gt => exact or_int op_gt
  | ge => exact or_int op_ge
  | eq =>
    rintro pins s σ H x y v u Q I rx ry ⟨ρ, S, a, b, z, R, ra, rb, e, k⟩
    rcases eqD_inv R ra rb e with ⟨p, q, rfl, rfl, rfl⟩ | ⟨p, q, h1, h2, h3, h4, rfl⟩
    · exact op_eq pins s σ H _ _ v u Q I rx ry ⟨rfl, by rw [dec_strs]; exact k⟩
    · exact op_eqD (by omega) pins s σ H _ _ v u Q I rx ry ⟨p, q, hK ▸ h1, hK ▸ h2, h3, h4, k⟩
  | ne =>
    rintro pins s σ H x y v u Q I rx ry ⟨ρ, S, a, b, z, R, ra, rb, e, k⟩
    simp only [cmpD, Option.map_eq_some_iff] at e
    obtain ⟨z', e, rfl⟩ := e
    rcases eqD_inv R ra rb e with ⟨p, q, rfl, rfl, rfl⟩ | ⟨p, q, h1, h2, h3, h4, rfl⟩
    · exact op_ne pins s σ H _ _ v u Q I rx ry ⟨rfl, by rw [dec_strs]; exact k⟩
    · exact op_neD (by omega) pins s σ H _ _ v u Q I rx ry ⟨p, q, hK ▸ h1, hK ▸ h2, h3, h4, k⟩
  | inn =>
    rintro pins s σ H x y v u Q I rx ry ⟨ρ, S, a, b, z, R, ra, rb, e, k⟩
    rcases in_inv R ra rb e with ⟨c, t, rfl, rfl, rfl⟩ | ⟨p, vs, rfl, h1, h2, h3, rfl⟩ | ⟨d, ds, h1, h2, h3, h4, rfl⟩
    · exact op_in_sign pins s σ H _ _ v u Q I rx ry ⟨_, _, rfl, rfl, by simpa using k⟩
    · exact op_in_seq pins s σ H _ _ v u Q I rx ry ⟨p, vs, rfl, hK ▸ h1, h2, h3, k⟩
    · rcases h2 with h2 | h2
      · exact op_inD (by omega) pins s σ H _ _ v u Q I rx ry ⟨d, ds, hK ▸ h1, hK ▸ h2, h3, h4, k⟩
      · exact op_inT (by omega) pins s σ H _ _ v u Q I rx ry ⟨d, ds, hK ▸ h1, hK ▸ h2, h3, (shaped_tup ds).trans h4, k⟩
  | nin =>
    rintro pins s σ H x y v u Q I rx ry ⟨ρ, S, a, b, z, R, ra, rb, e, k⟩
    simp only [cmpD, Option.map_eq_some_iff] at e
    obtain ⟨z', e, rfl⟩ := e
    rcases in_inv R ra rb e with ⟨c, t, rfl, rfl, rfl⟩ | ⟨p, vs, rfl, h1, h2, h3, rfl⟩ | ⟨d, ds, h1, h2, h3, h4, rfl⟩
    · exact op_notIn_sign pins s σ H _ _ v u Q I rx ry ⟨_, _, rfl, rfl, by simpa using k⟩
    · exact op_notIn_seq pins s σ H _ _ v u Q I rx ry ⟨p, vs, rfl, hK ▸ h1, h2, h3, k⟩
    · rcases h2 with h2 | h2
      · exact op_notInD (by omega) pins s σ H _ _ v u Q I rx ry ⟨d, ds, hK ▸ h1, hK ▸ h2, h3, h4, k⟩
      · exact op_notInT (by omega) pins s σ H _ _ v u Q I rx ry ⟨d, ds, hK ▸ h1, hK ▸ h2, h3, (shaped_tup ds).trans h4, k⟩

/-! ### truth -/
theorem isEmpty_len {α β : Type} {xs : List α} {ys : List β} (h : xs.length = ys.length) : (!xs.isEmpty) = !ys.isEmpty := by
  cases xs <;> cases ys <;> simp_all
theorem tru_of {k : Bool} (hK : X.K = G.K) (R : RelS G ρ S H) (r : RelW G ex (Live ρ S) ρ H w v) (e : truthy w S = some k) : TruV X.K v H k := by
  have viaSeq : ∀ {kd xs}, seqOf w S = some (kd, xs) → k = !xs.isEmpty → TruV X.K v H k := fun {kd xs} e1 e2 => by
    obtain ⟨p, vs, rfl, h1, r1⟩ := r.seqOf R e1
    rcases h1 with ⟨_, h1⟩ | ⟨_, h1⟩
    · exact .inr (.inl ⟨vs, hK ▸ h1.sq, e2.trans (isEmpty_len r1.length)⟩)
    · exact .inl ⟨vs, hK ▸ h1, e2.trans (isEmpty_len r1.length)⟩
  have viaMap : ((seqOf w S).map fun p => !p.2.isEmpty) = some k → TruV X.K v H k := fun e1 => by
    simp only [Option.map_eq_some_iff] at e1
    obtain ⟨⟨kd, xs⟩, e2, e3⟩ := e1
    exact viaSeq e2 e3.symm
  cases w with
  | d x =>
    have rd := r.d_inv
    cases x with
    | non => cases rd; simp only [truthy] at e; cases e; exact rfl
    | bl b => cases rd; simp only [truthy] at e; cases e; exact rfl
    | int i => cases rd; simp only [truthy] at e; cases e; exact rfl
    | str t =>
      cases rd
      simp only [truthy] at e
      split at e
      · next hl =>
        cases e
        refine ⟨by rw [str_len]; exact hl, ?_⟩
        rw [str_len]
        cases t with
        | nil => rfl
        | cons c t => simp; omega
      · cases e
    | tup xs => exact viaMap e
    | lst xs => exact viaMap e
    | dic _ => simp [truthy] at e
    | obj _ _ => simp [truthy] at e
    | fn _ => simp [truthy] at e
  | loc l => exact viaMap e
  | scr ns => exact viaMap e
  | exn c fs => exact viaMap e
/-! ### items -/
theorem atI_map {α β : Type} {xs : List α} {i : Int} {x : α} (h : atI xs i = some x) : ∃ j, ixN xs.length i = some j ∧ xs[j]? = some x := by
  unfold atI at h
  cases e : ixN xs.length i with
  | none => rw [e] at h; cases h
  | some j => rw [e] at h; exact ⟨j, rfl, h⟩
theorem RelDs.atI {xs : List D} {vs : List V} {i : Int} {x : D} {L : Addr → Prop} (h : RelDs G L H xs vs) (e : L2.atI xs i = some x) : ∃ v, L2.atI vs i = some v ∧ RelD G L H x v := by
  obtain ⟨j, e1, e2⟩ := atI_map (β := V) e
  obtain ⟨v, e3, r⟩ := h.get e2
  refine ⟨v, ?_, r⟩
  unfold L2.atI
  rw [← h.length, e1]
  exact e3
theorem RelWs.atI {xs : List W} {vs : List V} {i : Int} {x : W} {L : Addr → Prop} (h : RelWs G ex L ρ H xs vs) (e : L2.atI xs i = some x) : ∃ v, L2.atI vs i = some v ∧ RelW G ex L ρ H x v := by
  obtain ⟨j, e1, e2⟩ := atI_map (β := V) e
  obtain ⟨v, e3, r⟩ := h.get e2
  refine ⟨v, ?_, r⟩
  unfold L2.atI
  rw [← h.length, e1]
  exact e3
theorem RelW.none_of {L : Addr → Prop} (h : RelW G none L ρ H w v) : RelW G ex L ρ H w v := by
  cases h with
  | d h => exact .d h
  | loc h => exact .loc h
  | scr h => exact .scr h
  | exn h _ _ _ => cases h
def rIxW (G : Wd) (ex : Ex) : R2 := fun x y H Q => ∃ ρ S a b z, RelS G ρ S H ∧ RelW G ex (Live ρ S) ρ H a x ∧ RelW G ex (Live ρ S) ρ H b y ∧ ixD a b S = some z ∧ ∀ v, RelW G ex (Live ρ S) ρ H z v → Q v H
theorem ix_w (hK : X.K = G.K) : IxR X (rIxW G ex) := by
  rintro e1 e2 pins s σ H x y v u Q I rx ry ⟨ρ, S, a, b, z, R, ra, rb, e, k⟩ hsub
  unfold ixD at e
  split at e
  · next i =>
    have q2 := rb.d_inv.int_inv
    subst q2
    have viaSeq : ∀ {kd xs x'}, seqOf a S = some (kd, xs) → L2.atI xs i = some x' → z = .d x' → wpAny (model X.prog X.w) X.A (subscriptTail e1 e2 v u) (EP X pins σ Q) X.xe s := fun {kd xs x'} g1 g2 g3 => by
      obtain ⟨p, vs, rfl, h1, r1⟩ := ra.seqOf R g1
      obtain ⟨v', g4, r4⟩ := r1.atI g2
      subst g3
      rcases h1 with ⟨_, h1⟩ | ⟨_, h1⟩
      · exact ix_tup e1 e2 pins s σ H _ _ v u Q I rx ry ⟨p, vs, i, v', rfl, rfl, hK ▸ h1.sq, g4, k _ (.d r4)⟩ hsub
      · exact ix_list e1 e2 pins s σ H _ _ v u Q I rx ry ⟨p, vs, i, v', rfl, rfl, hK ▸ h1, g4, k _ (.d r4)⟩ hsub
    split at e
    · next t =>
      split at e
      · next hl =>
        simp only [Option.map_eq_some_iff] at e
        obtain ⟨c, e3, e4⟩ := e
        subst e4
        have q1 := ra.d_inv.str_inv
        subst q1
        refine ix_str e1 e2 pins s σ H _ _ v u Q I rx ry ⟨Str' t, i, c, rfl, rfl, by rw [str_len]; exact hl, by simpa using e3, ?_⟩ hsub
        exact k _ (.d (.str [c]))
      · cases e
    · next l =>
      split at e
      · next xs g1 =>
        simp only [Option.map_eq_some_iff] at e
        obtain ⟨x', e3, e4⟩ := e
        exact viaSeq (kd := .lst) (xs := xs) (by simp only [seqOf, g1]) e3 e4.symm
      · next ws g1 =>
        cases ra with
        | loc ha =>
          cases R.cell l _ _ g1 ha with
          | lsw h1 h2 =>
            obtain ⟨v', g4, r4⟩ := h2.atI e
            exact ix_list e1 e2 pins s σ H _ _ v u Q I rx ry ⟨_, _, i, v', rfl, rfl, SqL.of h1, g4, k _ r4.none_of⟩ hsub
      · cases e
    · split at e
      · next kd xs g1 =>
        simp only [Option.map_eq_some_iff] at e
        obtain ⟨x', e3, e4⟩ := e
        exact viaSeq g1 e3 e4.symm
      · cases e
  · cases e
/-! ### slices -/
def rSlW (G : Wd) (ex : Ex) : V → Option Int → Option Int → Hp → VK → Prop := fun x lo hi H Q => ∃ ρ S a z, RelS G ρ S H ∧ RelW G ex (Live ρ S) ρ H a x ∧ slD a lo hi S = some z ∧ ∀ v H', Ext ρ S H ρ S H' → RelS G ρ S H' → RelD G (Live ρ S) H' z v → Q v H'
theorem sIx_whole {n : Nat} {lo hi : Option Int} (h : HT.sIx n 0 lo = 0 ∧ HT.sIx n n hi = n) {α : Type} {xs : List α} (e : xs.length = n) : cut xs lo hi = xs := by
  unfold RI.cut
  subst e
  rw [h.1, h.2]
  simp
theorem sl_w (hK : X.K = G.K) : SlR X (rSlW G ex) := by
  rintro pins s σ H x v vl vu lo hi sl Q I rx hs pl pu ⟨ρ, S, a, z, R, ra, e, k⟩
  unfold slD at e
  split at e
  · next t =>
    split at e
    · next hl =>
      cases e
      have q1 := ra.d_inv.str_inv
      subst q1
      refine sl_str pins s σ H _ v vl vu lo hi sl Q I rx hs pl pu ⟨Str' t, rfl, by rw [str_len]; exact hl, ?_⟩
      have ec : cutS (Str' t) lo hi = Str' (RI.cut t lo hi) := by
        unfold cutS RI.cut
        rw [str_len]
      rw [ec]
      exact k _ H .refl R (.str _)
    · cases e
  · split at e
    · next xs g1 =>
      cases e
      obtain ⟨p, vs, rfl, h1, r1⟩ := ra.seqOf R g1
      rcases h1 with ⟨_, h1⟩ | ⟨h0, _⟩
      · refine sl_tupN pins s σ H _ v vl vu lo hi sl Q I rx hs pl pu ⟨p, vs, rfl, hK ▸ h1.sq, fun hw => ?_, fun _ q u hq hu => ?_⟩
        · rw [sIx_whole hw r1.length] at k
          exact k _ H .refl R (.tup h1 r1)
        · exact k _ _ (.newObj hq) (R.newObj hq) (.newTup R hq hu (r1.cut _ _))
      · cases h0
    · next xs g1 =>
      cases e
      obtain ⟨p, vs, rfl, h1, r1⟩ := ra.seqOf R g1
      rcases h1 with ⟨h0, _⟩ | ⟨_, h1⟩
      · cases h0
      · exact sl_list pins s σ H _ v vl vu lo hi sl Q I rx hs pl pu ⟨p, vs, rfl, hK ▸ h1, fun q hq => k _ _ (.newObj hq) (R.newObj hq) (.newLst R hq (r1.cut _ _))⟩
    · cases e
end
end RI
/-! RIL: sum(xs, []) of a list of lists. -/
namespace RI
open PySem PySem.Spec PyProof.Rows
section
variable {prog : Program} {w : World} {A : Around} {E : Value → Shared → Prop} {s : Shared}
theorem args_sum2 (a b : Value) : argsOk "sum" ⟨[a, b], []⟩ := by unfold argsOk; kernel_rfl
theorem sub_list_str' : isSubtype (.type "list") (.type "str") = pure false := by rw [isSubtype_type]; kernel_rfl
theorem sub_list_bytes' : isSubtype (.type "list") (.type "bytes") = pure false := by rw [isSubtype_type]; kernel_rfl
theorem sub_list_bytearray' : isSubtype (.type "list") (.type "bytearray") = pure false := by rw [isSubtype_type]; kernel_rfl
/-- a list and a list -/
theorem add_listsQ {l b : Addr} {vs ws : List Value} {Q : Value → Shared → Prop} (hl : s.heap.IsList l vs.toArray) (hb : s.heap.IsList b ws.toArray)
    (h : Q (.ref s.heap.objs.size) { s with heap := s.heap.push { cls := .type "list", data := .seq (vs ++ ws).toArray } }) (hsz : vs.length + ws.length ≤ sizeLine) :
    wpAny (model prog w) A (binaryOp .Add (.ref l) (.ref b)) Q E s := by
  obtain ⟨⟨cls, dd, data, sl⟩, ho, hc, n, hd⟩ := id hl
  obtain ⟨⟨cls2, dd2, data2, sl2⟩, ho2, hc2, n2, hd2⟩ := id hb
  simp only at hc hd hc2 hd2
  subst hc hd hc2 hd2
  have e : vs.toArray ++ ws.toArray = (vs ++ ws).toArray := by simp
  refine concat_meets ⟨_, ho, rfl⟩ ⟨_, ho2, rfl⟩ noFill_list_add seq_list_add PySem.F.slot_list_add PySem.F.entry_list_add (PySem.F.args_list_add_2 _ _) (list_addW l b vs.toArray ws.toArray n n2 dd dd2 sl sl2 (by simpa using hsz)) ⟨ho, ho2, ?_⟩
  rw [e]
  exact h
end
section
variable {prog : Program} {w : World} {A : Around} {R : Result → Shared → Prop} {I : Addr} {fp wr : List Addr} {n : Nat} {P : Nat → Value → Prop} {St : Nat → Heap → Prop}
/-- so far -/
structure SoFar (S : Addr) (wr : List Addr) (N : Nat) (e : Addr) (ys : List (List Value)) (i : Nat) (p : Addr) (h : Heap) : Prop where
  l : h.IsList p (ys.take i).flatten.toArray
  s : p ≠ S
  w : p ∉ wr
  z : i = 0 → p = e
  n : 0 < i → N ≤ p ∧ h.get? p = some { cls := .type "list", data := .seq (ys.take i).flatten.toArray }
theorem SoFar.keep {S : Addr} {N : Nat} {e p : Addr} {ys : List (List Value)} {i : Nat} {h h' : Heap} (x : SoFar S wr N e ys i p h) (k : ∀ b o, b ∉ wr → b ≠ S → h.get? b = some o → h'.get? b = some o) : SoFar S wr N e ys i p h' :=
  ⟨x.l.at fun o e => k p o x.w x.s e, x.s, x.w, x.z, fun h => ⟨(x.n h).1, k p _ x.w x.s (x.n h).2⟩⟩
theorem codeAny_sum_loopL (W : Walks prog w A.in1 I fp wr n P St) (ys : List (List Value)) (hn : n = ys.length) (e : Addr) (N : Nat) (S : Addr) (hSf : S ∉ fp) 
    (hsz : ys.flatten.length ≤ sizeLine) (Lb : Nat → Addr → Prop) (hP : ∀ i v, P i v → ∃ b, v = .ref b ∧ Lb i b)
    (Hy : Heap → Prop) (hHy : ∀ h h', Hy h → (∀ b o, b ∉ wr → b ≠ S → h.get? b = some o → h'.get? b = some o) → Hy h') (hyl : ∀ h i b y, Hy h → Lb i b → ys[i]? = some y → h.IsList b y.toArray) (hNS : N ≤ S) (hwr : ∀ i h, St i h → ∀ b ∈ wr, b < h.objs.size) :
    ∀ (k i : Nat) (s : Shared) (p : Addr) (c : Nat) (st : Int), st = 2 → n - i = k → i ≤ n → St i s.heap → Hy s.heap → s.heap.get? S = some { cls := .type "list", dict := none, data := .seq #[.ref p] c, slots := #[] } → SoFar S wr N e ys i p s.heap →
    (∀ h' tk p, SoFar S wr N e ys n p h' → (∀ b o, b ∉ wr → b ≠ S → s.heap.get? b = some o → h'.get? b = some o) → R (.ok (.ret (.ref p))) { s with heap := h', toks := tk }) →
    codeAny (model prog w) A (.builtin "sum.loop" ⟨[.ref I, .ref S, rawInt st, rawInt 0], []⟩) R s := by
  have hSw : S ∉ wr := fun h => hSf (W.sub _ h)
  intro k
  induction k with
  | zero =>
    intro i s p c st hst2 hk hi hst hy hS hT hR
    have hin : i = n := by omega
    subst hin
    refine codeAny_builtin F.entry_sum_loop ?_
    rw [Around.under_plainId F.plain_sum_loop _]
    show wpAny _ A.in1 (seqItems? (.ref S) >>= _) _ _ s
    refine wpAny_bind (wpAny_seqItems hS rfl ?_)
    show wpAny _ A.in1 (tryCatch (pyNext (.ref I)) _ >>= _) _ _ s
    refine wpAny_bind (wpAny_tryCatch (W.done s _ _ hst fun h' tk hk' => ?_))
    exact wpAny_pure (hR h' tk p (hT.keep fun b o hb _ e => hk' b o hb e) fun b o hbw _ e => hk' b o hbw e)
  | succ k ih =>
    intro i s p c st hst2 hk hi hst hy hS hT hR
    have hlt : i < n := by omega
    subst hst2
    refine codeAny_builtin F.entry_sum_loop ?_
    rw [Around.under_plainId F.plain_sum_loop _]
    show wpAny _ A.in1 (seqItems? (.ref S) >>= _) _ _ s
    refine wpAny_bind (wpAny_seqItems hS rfl ?_)
    show wpAny _ A.in1 (tryCatch (pyNext (.ref I)) _ >>= _) _ _ s
    refine wpAny_bind (wpAny_tryCatch (W.item i s _ _ hlt hst fun v h' tk hPv hst' hk' => ?_))
    obtain ⟨b, rfl, hb⟩ := hP i v hPv
    have hS' := hk' S _ hSw hS
    have hT' := hT.keep fun b o hb _ e => hk' b o hb e
    have hy' := hHy _ _ hy fun b o hb _ e => hk' b o hb e
    have hil : i < ys.length := by omega
    have hbl := hyl _ i b ys[i] hy' hb (List.getElem?_eq_getElem hil)
    have hfl : (ys.take i).flatten ++ ys[i] = (ys.take (i + 1)).flatten := by
      rw [List.take_succ_eq_append_getElem hil, List.flatten_append]
      simp
    have hfz : (ys.take i).flatten.length + ys[i].length ≤ sizeLine := by
      have h1 : (ys.take (i + 1)).flatten.length ≤ ys.flatten.length := by
        conv => rhs; rw [← List.take_append_drop (i + 1) ys, List.flatten_append, List.length_append]
        omega
      rw [← hfl, List.length_append] at h1
      omega
    have hSlt : S < h'.objs.size := Heap.lt_size hS'
    show wpAny _ A.in1 ((holding [Value.ref b] (binaryOp .Add (.ref p) (.ref b))).attempt >>= _) _ _ _
    refine wpAny_bind (wpAny_attempt (wpAny_holding (add_listsQ hT'.l hbl ?_ hfz)))
    rw [hfl]
    have hS1 := Heap.get?_push_of_some { cls := .type "list", data := .seq (ys.take (i + 1)).flatten.toArray } hS'
    show wpAny _ A.in1 (updateSeq S (fun _ => #[.ref h'.objs.size]) >>= _) _ _ _
    refine wpAny_bind (wpAny_updateSeq hS1 rfl ?_)
    have hS2 := Heap.get?_update_self (Obj.mapSeq fun _ => #[Value.ref h'.objs.size]) hS1 rfl
    refine wpAny_bind (wpAny_letGo ?_)
    have up : ∀ b o, b ≠ S → h'.get? b = some o → ((((h'.push { cls := .type "list", data := .seq (ys.take (i + 1)).flatten.toArray }).update S (Obj.mapSeq fun _ => #[Value.ref h'.objs.size])).update S (Obj.mapSeq fun _ => #[Value.ref h'.objs.size])).get? b = some o) := fun b o hb e =>
      (Heap.get?_update_other _ _ (Ne.symm hb)).trans ((Heap.get?_update_other _ _ (Ne.symm hb)).trans (Heap.get?_push_of_some _ e))
    have hnew : (((h'.push { cls := .type "list", data := .seq (ys.take (i + 1)).flatten.toArray }).update S (Obj.mapSeq fun _ => #[Value.ref h'.objs.size])).update S (Obj.mapSeq fun _ => #[Value.ref h'.objs.size])).get? h'.objs.size = some { cls := .type "list", data := .seq (ys.take (i + 1)).flatten.toArray } :=
      (Heap.get?_update_other _ _ (Nat.ne_of_lt hSlt)).trans ((Heap.get?_update_other _ _ (Nat.ne_of_lt hSlt)).trans (Heap.get?_push_size _ rfl))
    refine wpAny_bind ?_
    refine wpAny_updateSeq hS2 rfl (wpAny_pure ⟨plainId_quiet F.plain_sum_loop _, ih (i + 1) _ h'.objs.size _ 2 rfl (by omega) hlt (W.frame _ _ _ hst' fun b hb o e => up b o (fun h : b = S => hSf (by rw [← h]; exact hb)) e) (hHy _ _ hy' fun b o _ hb e => up b o hb e) (Heap.get?_update_self _ hS2 rfl) ⟨⟨_, hnew, rfl, 0, rfl⟩, Nat.ne_of_gt hSlt, fun hm => Nat.lt_irrefl _ (hwr _ _ hst' _ hm), fun h => by omega, fun _ => ⟨Nat.le_trans hNS (Nat.le_of_lt hSlt), hnew⟩⟩ ?_⟩)
    · intro h'' tk'' p'' hT'' hk''
      exact hR h'' tk'' p'' hT'' fun b o hbw hbS e => hk'' b o hbw hbS (up b o hbS (hk' b o hbw e))
end
section
variable {prog : Program} {w : World} {A : Around} {E : Value → Shared → Prop} {s : Shared}
theorem sum_lists_raw {l e : Addr} {its : Array Value} {ys : List (List Value)} {Q : Value → Shared → Prop} (hh : A.handled = none) (hl : s.heap.IsList l its) (hn : its.size = ys.length)
    (hi : ∀ (i : Nat) (v : Value), its[i]? = some v → ∃ b, v = .ref b ∧ ∀ y, ys[i]? = some y → s.heap.IsList b y.toArray) (he : s.heap.IsList e #[]) (hsz : ys.flatten.length ≤ sizeLine)
    (h : ∀ h' tk p, (ys = [] → p = e) → (ys ≠ [] → s.heap.objs.size ≤ p ∧ h'.get? p = some { cls := .type "list", data := .seq ys.flatten.toArray }) → (∀ b o, s.heap.get? b = some o → h'.get? b = some o) → Q (.ref p) { s with heap := h', toks := tk }) :
    wpAny (model prog w) A (call (.builtin "sum") [.ref l, .ref e]) Q E s := by
  refine call_function_tree F.kind_sum F.plain_sum F.entry_sum (args_sum2 _ _) ?_
  unfold Builtin.«sum»
  simp only [List.length_cons, List.length_nil]
  rw [if_neg (by decide)]
  refine wpAny_bind (wpAny_of_eq (show Builtin.Builtins.bindParams "sum" ["start"] 0 { pos := [.ref e], kw := [] } = pure [some (.ref e)] from rfl) ?_)
  have hlt : l < s.heap.objs.size := by obtain ⟨_, e, _⟩ := hl; exact Heap.lt_size e
  have helt : e < s.heap.objs.size := by obtain ⟨_, e, _⟩ := he; exact Heap.lt_size e
  refine wpAny_bind (wpAny_pyIter_list hl ?_)
  refine wpAny_bind (wpAny_pure ?_)
  have he1 : (s.heap.push { cls := .type "list_iterator", data := .fields #[.ref l, .int 0 0] }).IsList e #[] := he.push _
  have hT : Shared.TypeIs { s with heap := s.heap.push { cls := .type "list_iterator", data := .fields #[.ref l, .int 0 0] } } (.ref e) "list" := Heap.IsList.typeIs (s := { s with heap := s.heap.push { cls := .type "list_iterator", data := .fields #[.ref l, .int 0 0] } }) he1
  simp only [List.forIn_cons, List.forIn_nil]
  refine wpAny_bind (wpAny_bind (wpAny_bind (wpAny_isInstance (T := "list") (b := false) hT sub_list_str' ?_)))
  simp only [Bool.false_eq_true, if_false]
  refine wpAny_pure (wpAny_bind (wpAny_bind (wpAny_isInstance (T := "list") (b := false) hT sub_list_bytes' ?_)))
  simp only [Bool.false_eq_true, if_false]
  refine wpAny_pure (wpAny_bind (wpAny_bind (wpAny_isInstance (T := "list") (b := false) hT sub_list_bytearray' ?_)))
  simp only [Bool.false_eq_true, if_false]
  refine wpAny_pure (wpAny_pure ?_)
  refine wpAny_bind (wpAny_newObj_type ?_)
  have hsp : (s.heap.push { cls := .type "list_iterator", data := .fields #[.ref l, .int 0 0] }).objs.size = s.heap.objs.size + 1 := Heap.size_push ..
  have W := Walks.list (prog := prog) (w := w) (A := A.in1) hh s.heap.objs.size l (Nat.ne_of_lt hlt) its
  refine wpAny_pure ⟨plainId_quiet F.plain_sum_loop _, codeAny_sum_loopL W ys hn e s.heap.objs.size (s.heap.push { cls := .type "list_iterator", data := .fields #[.ref l, .int 0 0] }).objs.size (fun hm => ?_) hsz
    (fun i b => its[i]? = some (.ref b)) (fun i v hv => ?_) (fun h => ∀ b o, s.heap.get? b = some o → h.get? b = some o) (fun h h' hk k b o e => k b o (fun hm => ?_) (fun hm => ?_) (hk b o e))
    (fun h i b y hk hb hy => ?_) ?_ (fun i h hst b hb => ?_) its.size 0 _ e 0 2 rfl (by omega) (Nat.zero_le _) ?_ (fun b o e => Heap.get?_push_of_some _ (Heap.get?_push_of_some _ e)) (Heap.get?_push_size _ rfl) ?_ (fun h' tk p hT' hk => ?_)⟩
  · rcases List.mem_cons.mp hm with e1 | hm
    · exact absurd (hsp.symm.trans e1) (Nat.succ_ne_self _)
    · have e1 := hsp.symm.trans (List.mem_singleton.mp hm)
      exact Nat.lt_irrefl _ (Nat.lt_trans (Nat.lt_succ_self _) (e1 ▸ hlt))
  · obtain ⟨b, rfl, _⟩ := hi i v hv
    exact ⟨b, rfl, hv⟩
  · exact Nat.lt_irrefl _ ((List.mem_singleton.mp hm) ▸ Heap.lt_size e)
  · exact Nat.lt_irrefl _ (Nat.lt_trans (Nat.lt_succ_self _) ((hm.trans hsp) ▸ Heap.lt_size e))
  · obtain ⟨b', e', g⟩ := hi i _ hb
    cases e'
    exact (g y hy).at fun o e => hk b o e
  · exact hsp ▸ Nat.le_succ _
  · obtain ⟨o, e, _⟩ := hst.1
    exact (List.mem_singleton.mp hb) ▸ Heap.lt_size e
  · exact ⟨⟨_, Heap.get?_push_of_some _ (Heap.get?_push_size _ rfl), rfl, rfl⟩, (hl.push _).push _⟩
  · refine ⟨by simpa using he1.push _, fun e1 => ?_, fun hm => ?_, fun _ => rfl, fun h => absurd h (Nat.lt_irrefl _)⟩
    · exact Nat.lt_irrefl _ (Nat.lt_trans (Nat.lt_succ_self _) ((e1.trans hsp) ▸ helt))
    · exact Nat.lt_irrefl _ ((List.mem_singleton.mp hm) ▸ helt)
  · have hl' := hT'.n
    rw [hn, List.take_length] at hl'
    refine h h' tk p (fun e0 => hT'.z (by rw [hn, e0]; rfl)) (fun e0 => hl' (List.length_pos_iff.mpr e0)) fun b o e => hk b o (fun hm => ?_) (fun e1 => ?_) (Heap.get?_push_of_some _ (Heap.get?_push_of_some _ e))
    · exact Nat.lt_irrefl _ ((List.mem_singleton.mp hm) ▸ Heap.lt_size e)
    · exact Nat.lt_irrefl _ (Nat.lt_trans (Nat.lt_succ_self _) ((e1.trans hsp) ▸ Heap.lt_size e))
end
section
open L2
variable {X : Cx}
/-- lists at these places -/
inductive Lsts (H : Hp) : List V → List (List V) → Prop
  | nil : Lsts H [] []
  | cons {b : Addr} {y : List V} {vs : List V} {ys : List (List V)} : H b = some (.lst y) → Lsts H vs ys → Lsts H (.ref b :: vs) (y :: ys)
def rSumL (K : PySem.W.Frag) : List V → Hp → VK → Prop := fun vs H Q => ∃ (a e : Addr) (bs : List V) (ys : List (List V)), vs = [V.ref a, V.ref e] ∧ SqL K H a bs ∧ Lsts H bs ys ∧ SqL K H e [] ∧ ys.flatten.length ≤ sizeLine ∧
  (ys = [] → Q (.ref e) H) ∧ (ys ≠ [] → ∀ p, H p = none → Q (.ref p) (upd H p (.lst ys.flatten)))
theorem lsts_raw {pins : List (Addr × Obj)} {s : Shared} {σ : L2.St} {H : Hp} (I : Inv X pins σ H s) : ∀ {bs : List V} {ys : List (List V)} {its : List Value}, Lsts H bs ys → Vals bs its → ∃ yv : List (List Value), yv.length = its.length ∧ yv.flatten.length = ys.flatten.length ∧ Vals ys.flatten yv.flatten ∧ (yv = [] ↔ ys = []) ∧
    ∀ (i : Nat) (v : Value), its[i]? = some v → ∃ b, v = .ref b ∧ ∀ y, yv[i]? = some y → s.heap.IsList b y.toArray
  | _, _, _, .nil, .nil => ⟨[], rfl, rfl, .nil, by simp, fun i v h => by simp at h⟩
  | _, _, _, .cons (b := b) (y := y) h hs, .cons r rs => by
    obtain ⟨yv, h1, h2, h3, h4, h5⟩ := lsts_raw I hs rs
    obtain ⟨its, rv, hl, _⟩ := I.list (a := b) (.inl (.inl h))
    cases r
    refine ⟨its :: yv, by simp [h1], by simp [h2, rv.length], ?_, by simp, fun i v hv => ?_⟩
    · rw [List.flatten_cons, List.flatten_cons]
      exact rv.append h3
    · cases i with
      | zero =>
        simp at hv
        subst hv
        refine ⟨b, rfl, fun y hy => ?_⟩
        simp at hy
        subst hy
        exact hl.isList
      | succ i => exact h5 i v (by simpa using hv)
theorem cr_sumL (hc : X.calm = true) : CallR X (.builtin "sum") (rSumL X.K) := by
  intro pins s σ H vs us Q I r h
  obtain ⟨a, e, bs, ys, rfl, ha, hb, he, hz, q0, q1⟩ := h
  obtain ⟨its, rv, hl, _⟩ := I.list ha
  obtain ⟨eits, re, hle, _⟩ := I.list he
  cases re
  have hus : us = [Value.ref a, Value.ref e] := by
    cases r with
    | cons r t =>
      cases t with
      | cons r2 t2 =>
        cases t2
        cases r
        cases r2
        rfl
  subst hus
  obtain ⟨yv, h1, h2, h3, h4, h5⟩ := lsts_raw I hb rv
  refine sum_lists_raw (ys := yv) (I.ok.hd hc) hl.isList (by simpa using h1.symm) (fun i v hv => h5 i v (by simpa using hv)) hle.isList (by rw [h2]; exact hz) fun h' tk p z1 z2 hk => ?_
  by_cases e0 : ys = []
  · have := z1 (h4.mpr e0)
    subst this
    exact ⟨.ref p, H, I.kept hk, rfl, q0 e0⟩
  · obtain ⟨n1, n2⟩ := z2 fun h => e0 (h4.mp h)
    exact ⟨.ref p, upd H p (.lst ys.flatten), I.laid hk n1 ⟨hz, _, _, h3, n2⟩, rfl, q1 e0 p (I.hok.fresh n1)⟩
end
end RI
/-! RI6: built-in functions and methods. -/
namespace RI
open PySem PySem.Spec PyProof.Rows L2

section
variable {G : Wd} {ex : Ex} {ρ : Rho} {S : Store} {H : Hp} {L : Addr → Prop} {X : Cx}
theorem RelDs.bls : ∀ {xs : List D} {vs : List V} {k : Bool}, RelDs G L H xs vs → allB xs = some k → ∃ bs : List Bool, vs = bs.map V.bl ∧ k = bs.all id
  | _, _, k, .nil, e => by simp only [allB] at e; cases e; exact ⟨[], rfl, rfl⟩
  | x :: xs, _, k, .cons a h, e => by
    cases a <;> simp only [allB] at e <;> try cases e
    simp only [Option.map_eq_some_iff] at e
    obtain ⟨k', e1, e2⟩ := e
    obtain ⟨bs, e3, e4⟩ := RelDs.bls h e1
    subst e3; subst e4; subst e2
    exact ⟨_ :: bs, rfl, rfl⟩
theorem RelDs.bls' : ∀ {xs : List D} {vs : List V} {k : Bool}, RelDs G L H xs vs → anyB xs = some k → ∃ bs : List Bool, vs = bs.map V.bl ∧ k = bs.any id
  | _, _, k, .nil, e => by simp only [anyB] at e; cases e; exact ⟨[], rfl, rfl⟩
  | x :: xs, _, k, .cons a h, e => by
    cases a <;> simp only [anyB] at e <;> try cases e
    simp only [Option.map_eq_some_iff] at e
    obtain ⟨k', e1, e2⟩ := e
    obtain ⟨bs, e3, e4⟩ := RelDs.bls' h e1
    subst e3; subst e4; subst e2
    exact ⟨_ :: bs, rfl, rfl⟩
theorem RelDs.ints_of : ∀ {xs : List D} {vs : List V} {ns : List Int}, RelDs G L H xs vs → intsOf xs = some ns → vs = ns.map V.int
  | _, _, ns, .nil, e => by simp only [intsOf] at e; cases e; rfl
  | x :: xs, _, ns, .cons a h, e => by
    cases a <;> simp only [intsOf] at e <;> try cases e
    simp only [Option.map_eq_some_iff] at e
    obtain ⟨k', e1, e2⟩ := e
    subst e2
    rw [RelDs.ints_of h e1]; rfl
theorem RelDs.strs_of : ∀ {xs : List D} {vs : List V} {ns : List (List Nat)}, RelDs G L H xs vs → strsOf xs = some ns → vs = (ns.map Str').map V.str
  | _, _, ns, .nil, e => by simp only [strsOf] at e; cases e; rfl
  | x :: xs, _, ns, .cons a h, e => by
    cases a <;> simp only [strsOf] at e <;> try cases e
    simp only [Option.map_eq_some_iff] at e
    obtain ⟨k', e1, e2⟩ := e
    subst e2
    rw [RelDs.strs_of h e1]; rfl
theorem RelDs.of_strs : ∀ (ns : List (List Nat)), RelDs G L H (ns.map D.str) ((ns.map Str').map V.str)
  | [] => .nil
  | n :: ns => .cons (.str n) (RelDs.of_strs ns)
theorem RelWs.one {w : W} {vs : List V} (h : RelWs G ex L ρ H [w] vs) : ∃ v, vs = [v] ∧ RelW G ex L ρ H w v := by
  cases h with
  | cons a h => cases h; exact ⟨_, rfl, a⟩
theorem RelWs.nil_inv {vs : List V} (h : RelWs G ex L ρ H [] vs) : vs = [] := by cases h; rfl

theorem digits_of : ∀ {t : List Nat}, digitsOk t = true → NumText.AllDigits t
  | [], _ => fun c hc => by cases hc
  | x :: t, h => fun c hc => by
    simp only [digitsOk, Bool.and_eq_true, decide_eq_true_eq] at h
    rcases List.mem_cons.mp hc with e | e
    · subst e; exact h.1
    · exact digits_of h.2 c e
def rBi (G : Wd) (ex : Ex) (b : BI) : List V → Hp → VK → Prop := fun xs H Q => ∃ ρ S ws z, RelS G ρ S H ∧ RelWs G ex (Live ρ S) ρ H ws xs ∧ biD b ws S = some z ∧
  ∀ v H', Ext ρ S H ρ S H' → RelS G ρ S H' → RelD G (Live ρ S) H' z v → Q v H'
abbrev BI.fn : BI → Value
  | .abs => .builtin "abs" | .all => .builtin "all" | .any => .builtin "any" | .int => .type "int" | .len => .builtin "len" | .list => .type "list" | .str => .type "str" | .sum => .builtin "sum"
  | .tuple => .type "tuple" | .min => .builtin "min" | .repr => .builtin "repr" | .sorted => .builtin "sorted"
theorem decI_str (i : Int) : (toString i : Str) = Str' (decI i) := by
  show Str.ofString (toString i) = _
  unfold decI Str'
  simp
theorem RelDs.lsts : ∀ {xs : List D} {vs : List V} {zs : List D}, RelDs G L H xs vs → lstsOf xs = some zs → ∃ ys : List (List V), Lsts H vs ys ∧ RelDs G L H zs ys.flatten ∧ (ys = [] → zs = [])
  | [], _, _, .nil, e => by
    cases e
    exact ⟨[], .nil, .nil, fun _ => rfl⟩
  | x :: xs, _, _, .cons h hs, e => by
    cases x <;> (first | (simp [lstsOf] at e; done) | skip)
    rename_i y
    simp only [lstsOf, Option.map_eq_some_iff] at e
    obtain ⟨zs, e1, rfl⟩ := e
    obtain ⟨ys, l1, l2, _⟩ := RelDs.lsts hs e1
    cases h with
    | lst h n hv =>
      refine ⟨_ :: ys, .cons h l1, ?_, fun e => by cases e⟩
      rw [List.flatten_cons]
      exact hv.append l2
theorem cr_bi (hK : X.K = G.K) (hc : X.calm = true) : ∀ b : BI, CallR X b.fn (rBi G ex b) := by
  rintro b pins s σ H xs us Q I rv ⟨ρ, S, ws, z, R, rw', e, k⟩
  unfold biD at e
  split at e
  · next i =>
    cases e
    obtain ⟨v, rfl, r⟩ := rw'.one
    have q := r.d_inv.int_inv; subst q
    exact call_abs pins s σ H _ us Q I rv ⟨i, rfl, k _ H .refl R (.int _)⟩
  · next i =>
    cases e
    obtain ⟨v, rfl, r⟩ := rw'.one
    have q := r.d_inv.int_inv; subst q
    exact call_int1 pins s σ H _ us Q I rv (.inl ⟨i, rfl, k _ H .refl R (.int _)⟩)
  · next i =>
    cases e
    obtain ⟨v, rfl, r⟩ := rw'.one
    have q := r.d_inv.bl_inv; subst q
    exact call_int1 pins s σ H _ us Q I rv (.inr ⟨i, rfl, k _ H .refl R (.int _)⟩)
  · next t =>
    split at e
    · next hd =>
      cases e
      obtain ⟨v, rfl, r⟩ := rw'.one
      have q := r.d_inv.str_inv; subst q
      refine call_int_str pins s σ H _ us Q I rv ⟨Str' t, (decVal t : Int), rfl, ?_, by rw [str_len]; exact hd.2.1, k _ H .refl R (.int _)⟩
      rw [PySem.intText_digits (by show NumText.AllDigits t.toArray.toList; simpa using digits_of hd.2.2) (by show t.toArray.toList ≠ []; simpa using hd.1) (by rw [str_len]; omega)]
      show some ((NumText.digitsVal t.toArray.toList : Nat) : Int) = _
      simp only [List.toList_toArray]
      rfl
    · cases e
  · next i =>
    split at e
    · next hl =>
      cases e
      obtain ⟨v, rfl, r⟩ := rw'.one
      have q := r.d_inv.int_inv; subst q
      refine call_str_int pins s σ H _ us Q I rv ⟨i, rfl, hl, ?_⟩
      rw [decI_str]
      exact k _ H .refl R (.str _)
    · cases e
  · next t =>
    cases e
    obtain ⟨v, rfl, r⟩ := rw'.one
    have q := r.d_inv.str_inv; subst q
    exact SkE.call_str_str pins s σ H _ us Q I rv ⟨_, rfl, k _ H .refl R (.str _)⟩
  · next t =>
    split at e
    · next hl =>
      cases e
      obtain ⟨v, rfl, r⟩ := rw'.one
      have q := r.d_inv.str_inv; subst q
      refine call_len_str pins s σ H _ us Q I rv ⟨_, rfl, by rw [str_len]; exact hl, ?_⟩
      rw [str_len]
      exact k _ H .refl R (.int _)
    · cases e
  · next w _ =>
    simp only [Option.map_eq_some_iff] at e
    obtain ⟨⟨kd, xs⟩, e1, e2⟩ := e
    subst e2
    obtain ⟨v, rfl, r⟩ := rw'.one
    obtain ⟨p, vs, rfl, h1, r1⟩ := r.seqOf R e1
    refine call_len_seq pins s σ H _ us Q I rv ⟨p, vs, rfl, ?_, ?_⟩
    · rcases h1 with ⟨_, h1⟩ | ⟨_, h1⟩
      · exact .inr (hK ▸ h1.sq)
      · exact .inl (hK ▸ h1)
    · rw [← r1.length]
      exact k _ H .refl R (.int _)
  · next w =>
    simp only [Option.map_eq_some_iff] at e
    obtain ⟨⟨kd, xs⟩, e1, e2⟩ := e
    subst e2
    obtain ⟨v, rfl, r⟩ := rw'.one
    obtain ⟨p, vs, rfl, h1, r1⟩ := r.seqOf R e1
    refine call_list_of pins s σ H _ us Q I rv ⟨p, vs, rfl, ?_, fun q hq => k _ _ (.newObj hq) (R.newObj hq) (.newLst R hq r1)⟩
    rcases h1 with ⟨_, h1⟩ | ⟨_, h1⟩
    · exact .inr (hK ▸ h1.sq)
    · exact .inl (hK ▸ h1)
  · next w =>
    simp only [Option.map_eq_some_iff] at e
    obtain ⟨⟨kd, xs⟩, e1, e2⟩ := e
    subst e2
    obtain ⟨v, rfl, r⟩ := rw'.one
    obtain ⟨p, vs, rfl, h1, r1⟩ := r.seqOf R e1
    refine call_tupleN pins s σ H _ us Q I rv ⟨p, vs, rfl, ?_⟩
    rcases h1 with ⟨_, h1⟩ | ⟨_, h1⟩
    · exact .inr ⟨hK ▸ h1.sq, k _ H .refl R (.tup h1 r1)⟩
    · exact .inl ⟨hK ▸ h1, fun q u hq hu => k _ _ (.newObj hq) (R.newObj hq) (.newTup R hq hu r1)⟩
  · next w =>
    simp only [Option.bind_eq_some_iff, Option.map_eq_some_iff] at e
    obtain ⟨xs, e1, kk, e2, e3⟩ := e
    subst e3
    obtain ⟨v, rfl, r⟩ := rw'.one
    obtain ⟨p, vs, rfl, h1, r1⟩ := r.lstOf R e1
    obtain ⟨bs, rfl, rfl⟩ := r1.bls e2
    exact cr_all hc pins s σ H _ us Q I rv ⟨p, bs, rfl, SqL.of h1, k _ H .refl R (.bl _)⟩
  · next w =>
    simp only [Option.bind_eq_some_iff, Option.map_eq_some_iff] at e
    obtain ⟨xs, e1, kk, e2, e3⟩ := e
    subst e3
    obtain ⟨v, rfl, r⟩ := rw'.one
    obtain ⟨p, vs, rfl, h1, r1⟩ := r.lstOf R e1
    obtain ⟨bs, rfl, rfl⟩ := r1.bls' e2
    exact cr_any hc pins s σ H _ us Q I rv ⟨p, bs, rfl, SqL.of h1, k _ H .refl R (.bl _)⟩
  · next w =>
    split at e
    · next xs e1 =>
      simp only [Option.map_eq_some_iff] at e
      obtain ⟨ns, e2, e3⟩ := e
      subst e3
      obtain ⟨v, rfl, r⟩ := rw'.one
      obtain ⟨p, vs, rfl, h1, r1⟩ := r.seqOf R e1
      rcases h1 with ⟨h0, _⟩ | ⟨_, h1⟩
      · cases h0
      · have q := r1.ints_of e2; subst q
        exact cr_sum hc pins s σ H _ us Q I rv ⟨p, ns, rfl, hK ▸ h1, k _ H .refl R (.int _)⟩
    · cases e
  · next w =>
    split at e
    · next xs e1 =>
      simp only [Option.bind_eq_some_iff] at e
      obtain ⟨zs, e2, e3⟩ := e
      split at e3
      · next hl =>
        cases e3
        cases rw' with
        | cons r rt =>
          cases rt with
          | cons r2 rt2 =>
            cases rt2
            obtain ⟨p, vs, rfl, h1, r1⟩ := r.seqOf R e1
            rcases h1 with ⟨h0, _⟩ | ⟨_, h1⟩
            · cases h0
            · obtain ⟨q, us2, rfl, h2, n2, r3⟩ := r2.d_inv.lst_inv
              cases r3
              obtain ⟨ys, l1, l2, l3⟩ := RelDs.lsts r1 e2
              refine cr_sumL hc pins s σ H _ us Q I rv ⟨p, q, vs, ys, rfl, hK ▸ h1, l1, .inl (.inl h2), by rw [← l2.length]; exact hl, fun e0 => ?_, fun _ p hp => ?_⟩
              · have := l3 e0
                subst this
                exact k _ H .refl R r2.d_inv
              · exact k _ _ (.newObj hp) (R.newObj hp) (.newLst R hp l2)
      · cases e3
    · cases e
  · next i j =>
    cases e
    cases rw' with
    | cons r rt =>
      cases rt with
      | cons r2 rt2 =>
        cases rt2
        have q := r.d_inv.int_inv; subst q
        have q2 := r2.d_inv.int_inv; subst q2
        exact call_min2 hc pins s σ H _ us Q I rv ⟨i, j, rfl, k _ H .refl R (.int _)⟩
  · cases e

/-! ### methods of built-in types -/
def rBm (G : Wd) (ex : Ex) (m : BM) : V → List V → Hp → VK → Prop := fun x xs H Q => ∃ ρ S o ws w S', RelS G ρ S H ∧ RelW G ex (Live ρ S) ρ H o x ∧ RelWs G ex (Live ρ S) ρ H ws xs ∧ bmD m o ws S = .ok w S' ∧
  ∀ v H', Ext ρ S H ρ S' H' → RelS G ρ S' H' → RelW G ex (Live ρ S') ρ H' w v → Q v H'
theorem splitL_ne (c : Nat) : ∀ l, splitL c l ≠ []
  | [] => by simp [splitL]
  | x :: r => by
    simp only [splitL]
    split
    · simp
    · split <;> simp
theorem spl_splitL (c : Nat) : ∀ (l acc : List Nat), TL.spl [c] 0 acc l = match splitL c l with
    | [] => []
    | p :: ps => (acc ++ p) :: ps
  | [], acc => by simp [TL.spl, splitL]
  | x :: r, acc => by
    by_cases h : x = c
    · subst h
      rw [TL.spl_hit (by simp [TL.pre])]
      have ih := spl_splitL x r []
      simp only [splitL, if_true]
      show acc :: TL.spl [x] 0 [] r = _
      rw [ih]
      cases e : splitL x r with
      | nil => exact absurd e (splitL_ne x r)
      | cons p ps => simp
    · rw [TL.spl_miss (by simp [TL.pre]; exact h)]
      rw [spl_splitL c r (acc ++ [x])]
      simp only [splitL, if_neg h]
      cases e : splitL c r with
      | nil => exact absurd e (splitL_ne c r)
      | cons p ps => simp
theorem split_eq {c : Nat} {t : List Nat} (hc : c < 256) : Txt.split (Str' t) (Str' [c]) = (splitL c t).map Str' := by
  apply TL.map_tl_inj
  rw [TL.split_spl (Str' t) (Str' [c]) (by show ([c].toArray.toList ≠ []); simp) (TL.kind_ok (by show ([c].toArray.all _ = true); simp; exact hc))]
  have e1 : TL.tl (Str' [c]) = [c] := by show [c].toArray.toList = _; simp
  have e2 : TL.tl (Str' t) = t := by show t.toArray.toList = _; simp
  rw [e1, e2, spl_splitL c t []]
  rw [List.map_map]
  cases e : splitL c t with
  | nil => exact absurd e (splitL_ne c t)
  | cons p ps =>
    simp only [List.nil_append]
    have : ∀ l : List (List Nat), l.map (TL.tl ∘ Str') = l := fun l => by
      induction l with
      | nil => rfl
      | cons a l ih => rw [List.map_cons, ih]; rfl
    rw [this]
theorem joinL_eq (sep : List Nat) : ∀ ts : List (List Nat), TL.joinL sep ts = joinL sep ts
  | [] => rfl
  | [x] => rfl
  | x :: y :: r => by
    simp only [TL.joinL, joinL]
    rw [joinL_eq sep (y :: r), List.append_assoc]
theorem join_eq' (sep : List Nat) (ts : List (List Nat)) : Txt.join (Str' sep) (ts.map Str') = Str' (joinL sep ts) := by
  apply TL.ext_tl
  rw [TL.join_eq, TL.tl_join]
  have e1 : TL.tl (Str' sep) = sep := by show sep.toArray.toList = _; simp
  have e2 : ∀ l : List (List Nat), (l.map Str').map TL.tl = l := fun l => by
    induction l with
    | nil => rfl
    | cons a l ih => rw [List.map_cons, List.map_cons, ih]
  rw [e1, e2, joinL_eq]
theorem sumLen (ts : List (List Nat)) : ((ts.map Str').map (·.length)).sum = (ts.map List.length).sum := by
  rw [List.map_map]
  rfl
theorem mt_bm (hK : X.K = G.K) : ∀ m : BM, (m = .append → MtR X "list.append" (rBm G ex .append)) ∧ (m = .extend → MtR X "list.extend" (rBm G ex .extend)) ∧ (m = .pop → MtR X "list.pop" (rBm G ex .pop)) ∧
    (m = .join → MtR X "str.join" (rBm G ex .join)) ∧ (m = .split → MtR X "str.split" (rBm G ex .split)) := by
  intro m
  refine ⟨fun _ => ?_, fun _ => ?_, fun _ => ?_, fun _ => ?_, fun _ => ?_⟩
  · rintro pins s σ H x xs v us Q I rx rv ⟨ρ, S, o, ws, w, S', R, ro, rw', e, k⟩
    unfold bmD at e
    split at e <;> try (first | cases e | contradiction)
    next l w0 hm =>
    split at e
    · next ys e1 =>
      obtain ⟨y, rfl, r⟩ := rw'.one
      rcases toD_cases w0 S with ⟨z, S1, ez⟩ | ez
      · rw [ez] at e
        simp only [Res.bind_ok] at e
        obtain ⟨E1, R1, r1⟩ := toD_ok R r ez
        split at e
        · next ys1 e2 =>
          split at e
          · next hl =>
            cases e
            cases ro with
            | loc ha =>
              have hc := R1.cell l _ _ e2 ha
              cases hc with
              | lst h1 h2 =>
                rename_i vs0
                refine mt_append pins s σ H _ _ v us Q I rx rv ⟨_, _, y, rfl, rfl, h1, by rw [← h2.length]; exact hl, ?_⟩
                have ec := Ext.setCell (c' := .lst (ys1 ++ [z])) (o := .lst (vs0 ++ [y])) R1 e2 rfl ha
                refine k _ _ (E1.trans ec) (R1.setCell e2 rfl ha (.lst upd_same ?_)) (.d .non)
                exact (h2.mono ec.kp).append (.cons (r1.mono ec.kp) .nil)
          · cases e
        · cases e
      · rw [ez] at e; cases e
    · cases e
  · rintro pins s σ H x xs v us Q I rx rv ⟨ρ, S, o, ws, w, S', R, ro, rw', e, k⟩
    unfold bmD at e
    split at e <;> try (first | cases e | contradiction)
    next l w0 hm =>
    split at e
    · next ys zs e1 e2 =>
      split at e
      · next hl =>
        cases e
        obtain ⟨y, rfl, r⟩ := rw'.one
        obtain ⟨b, zv, rfl, hb, rz⟩ := r.lstOf R e2
        cases ro with
        | loc ha =>
          cases R.cell l _ _ e1 ha with
          | lst h1 h2 =>
            rename_i vs0
            refine mt_extend pins s σ H _ _ v us Q I rx rv ⟨_, b, _, zv, rfl, rfl, h1, hb, by rw [← h2.length, ← rz.length]; exact hl.1, ?_⟩
            have ec := Ext.setCell (c' := .lst (ys ++ zs)) (o := .lst (vs0 ++ zv)) R e1 rfl ha
            exact k _ _ ec (R.setCell e1 rfl ha (.lst upd_same ((h2.mono ec.kp).append (rz.mono ec.kp)))) (.d .non)
      · cases e
    · cases e
  · rintro pins s σ H x xs v us Q I rx rv ⟨ρ, S, o, ws, w, S', R, ro, rw', e, k⟩
    unfold bmD at e
    split at e <;> try (first | cases e | contradiction)
    next l i hm =>
    split at e
    · next ys e1 =>
      split at e
      · next j e2 =>
        split at e
        · next z e3 =>
          cases e
          obtain ⟨y, rfl, r⟩ := rw'.one
          have q := r.d_inv.int_inv; subst q
          cases ro with
          | loc ha =>
            cases R.cell l _ _ e1 ha with
            | lst h1 h2 =>
              rename_i vs0
              obtain ⟨zv, e4, rz⟩ := h2.get e3
              obtain ⟨g1, g2, g3, g4⟩ := ixN_seq e2
              have hs : (ys.length : Int) ≤ 2 ^ 24 := by
                have := (I.hok _ _ h1).1
                rw [← h2.length] at this
                have e5 : sizeLine = 2 ^ 24 := rfl
                omega
              refine mt_popAt pins s σ H _ _ v us Q I rx rv ⟨_, _, i, j, zv, rfl, rfl, h1, by omega, by omega, by rw [← h2.length]; exact g1, e4, ?_⟩
              have ec := Ext.setCell (c' := .lst (ys.eraseIdx j)) (o := .lst (List.eraseIdx vs0 j)) R e1 rfl ha
              exact k _ _ ec (R.setCell e1 rfl ha (.lst upd_same ((h2.mono ec.kp).erase _))) (.d (rz.mono ec.kp))
        · cases e
      · cases e
    · cases e
  · rintro pins s σ H x xs v us Q I rx rv ⟨ρ, S, o, ws, w, S', R, ro, rw', e, k⟩
    unfold bmD at e
    split at e <;> try (first | cases e | contradiction)
    next t w0 hm =>
    split at e
    · next ts e1 =>
      split at e
      · next hl =>
        cases e
        obtain ⟨y, rfl, r⟩ := rw'.one
        have q := ro.d_inv.str_inv; subst q
        simp only [Option.bind_eq_some_iff] at e1
        obtain ⟨⟨kd, xs⟩, e1, e2⟩ := e1
        obtain ⟨p, vs, rfl, h1, r1⟩ := r.seqOf R e1
        have q := r1.strs_of e2; subst q
        refine mt_join pins s σ H _ _ v us Q I rx rv ⟨Str' t, p, ts.map Str', rfl, rfl, ?_, ?_, ?_⟩
        · rcases h1 with ⟨_, h1⟩ | ⟨_, h1⟩
          · exact .inr (hK ▸ h1.sq)
          · exact .inl (hK ▸ h1)
        · rw [sumLen, List.length_map, str_len]; exact hl
        · rw [join_eq']
          exact k _ H .refl R (.d (.str _))
      · cases e
    · cases e
  · rintro pins s σ H x xs v us Q I rx rv ⟨ρ, S, o, ws, w, S', R, ro, rw', e, k⟩
    unfold bmD at e
    split at e <;> try (first | cases e | contradiction)
    next t c hm =>
    split at e
    · next hl =>
      cases e
      obtain ⟨y, rfl, r⟩ := rw'.one
      have q := ro.d_inv.str_inv; subst q
      have q := r.d_inv.str_inv; subst q
      refine mt_split pins s σ H _ _ v us Q I rx rv ⟨Str' t, Str' [c], rfl, rfl, by rw [str_len]; rfl, by rw [str_len]; exact hl.1, fun p hp => ?_⟩
      rw [split_eq hl.2]
      exact k _ _ (.newObj hp) (R.newObj hp) (.d (.newLst R hp (RelDs.of_strs _)))
    · cases e
end
end RI
/-! RI7: enumerate and zip over lists and tuples alike. -/
namespace RI
open PySem PySem.Spec PyProof.Rows L2

/-- a sequence to be read, by its kind -/
def Sq (k : SK) (K : PySem.W.Frag) (H : Hp) (a : Addr) (vs : List V) : Prop := match k with
  | .tup => SqT K H a vs
  | .lst => SqL K H a vs
/-- its iterator -/
def ItAt (k : SK) (h : Heap) (it a : Addr) (i : Nat) : Prop := match k with
  | .tup => h.IsTupleIter it a i
  | .lst => h.IsListIter it a i
def Holds (k : SK) (h : Heap) (a : Addr) (its : List Value) : Prop := match k with
  | .tup => h.IsTuple a its.toArray
  | .lst => h.IsList a its.toArray
def itObj (k : SK) (a : Addr) : Obj := match k with
  | .tup => { cls := .type "tuple_iterator", data := .fields #[.ref a, .int 0 0] }
  | .lst => { cls := .type "list_iterator", data := .fields #[.ref a, .int 0 0] }
section
variable {X : Cx} {pins : List (Addr × Obj)} {σ : St} {H : Hp} {s : Shared} {k : SK} {a it : Addr} {vs : List V}
theorem Inv.sq (I : L2.Inv X pins σ H s) (h : Sq k X.K H a vs) : ∃ its : List Value, Vals vs its ∧ Holds k s.heap a its := by
  cases k with
  | tup =>
    obtain ⟨its, r, p, _⟩ := L2.Inv.tuple I h
    exact ⟨its, r, p⟩
  | lst =>
    obtain ⟨its, r, p, _⟩ := L2.Inv.list I h
    exact ⟨its, r, p.isList⟩
theorem Inv.sq_inj (I : L2.Inv X pins σ H s) {us : List V} (h : Sq k X.K H a vs) (h' : Sq k X.K H a us) : vs = us := by
  cases k with
  | tup => exact L2.Inv.tuple_inj I h h'
  | lst => exact L2.Inv.list_inj I h h'
theorem begins (k : SK) (a : Addr) (its : List Value) : Begins (.ref a) (itObj k a) (fun h => Holds k h a its) := by
  cases k with
  | tup => exact begins_tuple a its.toArray
  | lst => exact begins_list a its.toArray
theorem draws {prog : Program} {w : World} {A : Around} (hh : A.handled = none) (k : SK) (it a : Addr) (hne : a ≠ it) (its : List Value) :
    Draws prog w A it [it, a] its.length (fun i v => its[i]? = some v) (fun i h => ItAt k h it a i ∧ Holds k h a its) := by
  cases k with
  | tup =>
    have t := Draws.tuple (prog := prog) (w := w) hh it a hne its.toArray
    simp only [List.size_toArray, List.getElem?_toArray] at t
    exact t
  | lst =>
    have t := Draws.list (prog := prog) (w := w) hh it a hne its.toArray
    simp only [List.size_toArray, List.getElem?_toArray] at t
    exact t
theorem itAt_obj {h : Heap} {i : Nat} (st : ItAt k h it a i) : ∃ o, h.get? it = some o ∧ ∀ v, o.data ≠ .cell v := by
  cases k with
  | tup => obtain ⟨o, ho, hc, hd⟩ := st; exact ⟨o, ho, fun v q => by rw [hd] at q; cases q⟩
  | lst => obtain ⟨o, ho, hc, hd⟩ := st; exact ⟨o, ho, fun v q => by rw [hd] at q; cases q⟩
theorem itAt_at {h h' : Heap} {i : Nat} (st : ItAt k h it a i) (e : ∀ o, h.get? it = some o → h'.get? it = some o) : ItAt k h' it a i := by
  cases k with
  | tup => exact Heap.IsTupleIter.at st e
  | lst => exact Heap.IsListIter.at st e
theorem itAt_new {h : Heap} (e : h.get? it = some (itObj k a)) : ItAt k h it a 0 := by
  cases k with
  | tup => exact ⟨_, e, rfl, rfl⟩
  | lst => exact ⟨_, e, rfl, rfl⟩
theorem itAt_ne {h : Heap} {i : Nat} {its : List Value} (st : ItAt k h it a i) (hs : Holds k h a its) : a ≠ it := by
  intro e
  subst e
  cases k with
  | tup =>
    obtain ⟨o, ho, hc, hd⟩ := st
    obtain ⟨o', ho', _, _, hd'⟩ := hs
    rw [ho] at ho'; cases ho'; rw [hd] at hd'; cases hd'
  | lst =>
    obtain ⟨o, ho, hc, hd⟩ := st
    obtain ⟨o', ho', _, _, hd'⟩ := hs
    rw [ho] at ho'; cases ho'; rw [hd] at hd'; cases hd'
end
set_option maxHeartbeats 4000000 in
theorem meets_enum1 {v : Value} {o : Obj} {H : Heap → Prop} (B : Begins v o H) :
    Meets (Builtin.«enumerate.__new__» ⟨[.type "enumerate", v], []⟩) (fun _ R s => H s.heap ∧
      R (.ok (.ret (.ref (s.heap.push o).objs.size))) { s with heap := (s.heap.push o).push { cls := .type "enumerate", data := .fields #[.none, .bool false, .ref s.heap.objs.size, rawInt 0, .none, .none] } }) :=
  .of_wp fun prog w A R s h => by
    obtain ⟨hp, g, d, tk, os⟩ := s; obtain ⟨h1, h⟩ := h
    have hsub := sub_enumerate
    have q1 : ∀ {A' : Around} {E : Value → Shared → Prop} {Q : Value → Shared → Prop}, Q (.ref hp.objs.size) ⟨hp.push o, g, d, tk, os⟩ → wpAny (model prog w) A' (pyIter v) Q E ⟨hp, g, d, tk, os⟩ :=
      fun q => B.iter prog w _ _ ⟨hp, g, d, tk, os⟩ _ h1 q
    wp_walk using q1
    refine wpAny_stack_any fun st => wpAny_pure ?_
    split
    · rename_i c _ _ _ _ _
      cases (c == Value.type "enumerate")
      · wp_walk using q1
        exact ⟨_, rfl, h⟩
      · wp_walk using q1
        exact ⟨_, rfl, h⟩
    · wp_walk using q1
      exact ⟨_, rfl, h⟩
theorem enum1_begins {prog : Program} {w : World} {A : Around} {E : Value → Shared → Prop} {s : Shared} {v : Value} {o : Obj} {H : Heap → Prop} {Q : Value → Shared → Prop} (B : Begins v o H) (h1 : H s.heap)
    (h : ∀ h', IsEnum h' (s.heap.objs.size + 1) s.heap.objs.size 0 .none → h'.get? s.heap.objs.size = some o → h'.objs.size = s.heap.objs.size + 2 →
      (∀ b o, s.heap.get? b = some o → h'.get? b = some o) → Q (.ref (s.heap.objs.size + 1)) { s with heap := h' }) :
    wpAny (model prog w) A (call (.type "enumerate") [v]) Q E s := by
  refine callType_new F.called_enumerate (by decide) (F.typeCall_enumerate_1 _) (F.newCall_enumerate_1 _) (fun obj => F.args_object_init_2 obj _) F.entry_enumerate_new
    (meets_enum1 B) ⟨h1, ?_⟩
  have hz : (s.heap.push o).objs.size = s.heap.objs.size + 1 := Heap.size_push ..
  show _ ∧ _
  rw [hz]
  have he : IsEnum ((s.heap.push o).push { cls := .type "enumerate", data := .fields #[.none, .bool false, .ref s.heap.objs.size, rawInt 0, .none, .none] }) (s.heap.objs.size + 1) s.heap.objs.size 0 .none := by
    have := Heap.get?_push_size (s.heap.push o) (o := { cls := .type "enumerate", data := .fields #[.none, .bool false, .ref s.heap.objs.size, rawInt 0, .none, .none] }) rfl
    rw [hz] at this; exact this
  exact ⟨⟨_, he, rfl⟩, h _ he (Heap.get?_push_of_some _ (Heap.get?_push_size _ B.free)) (by rw [Heap.size_push, hz]) fun b o x => Heap.get?_push_of_some _ (Heap.get?_push_of_some _ x)⟩

/-- (0, x), (1, y), .. -/
def ItE (k : SK) (K : PySem.W.Frag) (a : Addr) (vs : List V) : It :=
  ⟨fun i H => Sq k K H a vs ∧ i < vs.length, fun i H v H' => ∃ T x u, v = .ref T ∧ H T = none ∧ H' = upd H T u ∧ NT [.int (i : Nat), x] u ∧ vs[i]? = some x, fun i H => Sq k K H a vs ∧ vs.length = i⟩
theorem turn_en {P : Program} {w : World} {K : PySem.W.Frag} {elts : List Expr} {kk : Nat} {tpos : Pos} (k : SK) (a e it : Addr) (vs : List V) :
    Turn P w K (.Tuple elts kk tpos) (ItE k K a vs) [e, it] e (fun i h => (∃ old, IsEnum h e it ((i : Nat) : Int) old) ∧ ItAt k h it a i ∧ e ≠ it ∧ e ≠ a) where
  mem := by simp
  obj := fun i h st b hb => by
    obtain ⟨⟨old, he⟩, hi, _⟩ := st
    have e' : b = e ∨ b = it := by simpa using hb
    rcases e' with z | z
    · rw [z]; exact ⟨_, he, fun v q => nomatch q⟩
    · rw [z]; exact itAt_obj hi
  keep := fun i h h' st kp => let ⟨⟨old, he⟩, hi, hne, hna⟩ := st; ⟨⟨old, kp e (by simp) _ he⟩, itAt_at hi fun o q => kp it (by simp) o q, hne, hna⟩
  item := by
    intro X hP hw hK hc i pins s σ H E I hf st hg
    subst hP hw hK
    obtain ⟨⟨old, he⟩, hit, hne, hna⟩ := st
    obtain ⟨hq, hlt⟩ := hg
    obtain ⟨its, rv, p⟩ := Inv.sq I hq
    have hh : X.A.in1.handled = none := I.ok.hd hc
    have D := draws (prog := X.prog) (w := X.w) hh k it a (itAt_ne hit p) its
    have hel : e < s.heap.objs.size := Heap.lt_size he
    have hil : it < s.heap.objs.size := by obtain ⟨_, q, _⟩ := itAt_obj hit; exact Heap.lt_size q
    refine wpAny_pyNext_enum_itemC D he ⟨hit, p⟩ (by rw [← rv.length]; exact hlt) hne (by simp [hne, hna]) fun u h' tk hu ho st' hT hsz hk => ?_
    obtain ⟨x, hx, ru⟩ : ∃ x, vs[i]? = some x ∧ RelV x u := by
      obtain ⟨x, hx⟩ : ∃ x, vs[i]? = some x := ⟨_, List.getElem?_eq_getElem hlt⟩
      obtain ⟨u', hu', r'⟩ := rv.get hx
      rw [hu] at hu'; cases hu'
      exact ⟨x, hx, r'⟩
    refine ⟨_, rfl, wpAny_letOwnedTupleGo_enum (s := { s with heap := h', toks := tk + 1 }) ho fun h'' he' sb => ?_⟩
    have hT2 : h''.get? s.heap.objs.size = some { cls := .type "tuple", data := .seq #[.int i tk, u] } := (sb.2 _ (Nat.ne_of_gt hel)).trans hT
    have new : ObjOk X.prog X.w (upd H s.heap.objs.size (.frz (tupO [.int i tk, u]) (.tup [.int (i : Nat), x]))) h'' s.heap.objs.size (.frz (tupO [.int i tk, u]) (.tup [.int (i : Nat), x])) :=
      tupO_ok (by show 2 ≤ sizeLine; decide) (.cons ⟨_, rfl⟩ (.cons ru .nil)) hT2
    have I1 : L2.Inv X pins σ (upd H s.heap.objs.size (.frz (tupO [.int i tk, u]) (.tup [.int (i : Nat), x]))) { s with heap := h'', toks := tk + 1 } :=
      I.turnedNew (ch := [e, it]) (fun b ob hb q => (sb.2 b (fun z => hb (by simp [z]))).trans (hk b ob (fun z => hb (by simp [z])) (fun z => hb (by simp [z])) q)) hf (Nat.le_refl _) new
    refine ⟨.ref s.heap.objs.size, _, I1, rfl, ⟨_, x, _, rfl, I.hok.fresh (Nat.le_refl _), rfl, .new, hx⟩, ⟨⟨u, ?_⟩, itAt_at st'.1 fun o q => (sb.2 it (Ne.symm hne)).trans q, hne, hna⟩, fun b hb => ?_⟩
    · have e1 : ((i + 1 : Nat) : Int) = (i : Int) + 1 := by omega
      rw [e1]; exact he'
    · have hb' : b < s.heap.objs.size := by
        have e' : b = e ∨ b = it := by simpa using hb
        rcases e' with z | z
        · rw [z]; exact hel
        · rw [z]; exact hil
      rw [upd_ne (Nat.ne_of_lt hb')]
      exact (hf b hb).1
  done := by
    intro X hP hw hK hc i pins s σ H E I hf st hg
    subst hP hw hK
    obtain ⟨⟨old, he⟩, hit, hne, hna⟩ := st
    obtain ⟨hq, hx⟩ := hg
    obtain ⟨its, rv, p⟩ := Inv.sq I hq
    have hh : X.A.in1.handled = none := I.ok.hd hc
    have D := draws (prog := X.prog) (w := X.w) hh k it a (itAt_ne hit p) its
    obtain ⟨f0, f1, f2, f3, f4, f5⟩ := hf it (by simp)
    have hl := rv.length
    have e1 : its.length = i := by omega
    exact wpAny_pyNext_enum_endD D he (by rw [e1]; exact ⟨hit, p⟩) fun h' eb => ⟨rfl, I.turned (t' := s.toks) (fun b o hb q => eb b o hb q) f0 f1 f3 f4 f5⟩
  self := fun A i s Q E st h => let ⟨⟨_, he⟩, _⟩ := st; wpAny_pyIter_enum he h
def iEn (K : PySem.W.Frag) (ta : TA) : TI := fun σ H R => ta σ H fun ws H1 => ∃ k a vs, ws = [.ref a] ∧ Sq k K H1 a vs ∧ R (ItE k K a vs) H1
theorem pi_en {X : Cx} {e : Expr} {ta : TA} {p pos tpos : Pos} {elts : List Expr} {kk : Nat} (hg : Gl X "enumerate") (hm : X.mg "enumerate" = none) (ha : PA X [e] ta) (hs : starEach [e] X.env = [(false, eval e X.env)]) :
    PI X (.Tuple elts kk tpos) (.Call (.Name "enumerate" p) [e] [] pos) (iEn X.K ta) := by
  refine ⟨fun pins s σ H R I h => ?_⟩
  refine Call_ (ld_blt I hg hm boot_enumerate (PyProof.Rows.callWith_type1 (thn (ha.run pos pins s σ H _ I h) fun us s1 ⟨ws, H1, I1, r1, q1⟩ => ?_) hs rfl))
  obtain ⟨k, a, vs, ex, hq, q⟩ := q1
  subst ex
  cases r1 with
  | cons r rr =>
    cases rr
    cases r
    obtain ⟨its, rv, p'⟩ := Inv.sq I1 hq
    refine enum1_begins (begins k a its) p' fun h' he hit hsz hk => wpAny_pyIter_enum he ?_
    have I2 : L2.Inv X pins σ H1 { s1 with heap := h' } := I1.kept (t' := s1.toks) hk
    have ha' : a < s1.heap.objs.size := by
      cases k with
      | tup => obtain ⟨_, q, _⟩ := p'; exact Heap.lt_size q
      | lst => obtain ⟨_, q, _⟩ := p'; exact Heap.lt_size q
    refine ⟨s1.heap.objs.size + 1, [s1.heap.objs.size + 1, s1.heap.objs.size], _, _, H1, rfl, I2, turn_en k a (s1.heap.objs.size + 1) s1.heap.objs.size vs, ⟨⟨.none, he⟩, itAt_new hit, Nat.succ_ne_self _, fun z => absurd ha' (by rw [← z]; exact Nat.not_lt.mpr (Nat.le_succ _))⟩, fun b hb => ?_, q⟩
    have e' : b = s1.heap.objs.size + 1 ∨ b = s1.heap.objs.size := by simpa using hb
    have hle : s1.heap.objs.size ≤ b := by
      rcases e' with z | z
      · rw [z]; exact Nat.le_add_right _ _
      · rw [z]; exact Nat.le_refl _
    exact I1.fpOk hle (I1.hok.fresh hle)

/-- (x, y) of two sequences -/
def ItZ (k1 k2 : SK) (K : PySem.W.Frag) (a b : Addr) (xs ys : List V) : It :=
  ⟨fun i H => Sq k1 K H a xs ∧ Sq k2 K H b ys ∧ i < xs.length ∧ i < ys.length, fun i H v H' => ∃ T x y u, v = .ref T ∧ H T = none ∧ H' = upd H T u ∧ NT [x, y] u ∧ xs[i]? = some x ∧ ys[i]? = some y,
    fun i H => Sq k1 K H a xs ∧ Sq k2 K H b ys ∧ i ≤ xs.length ∧ i ≤ ys.length ∧ (i = xs.length ∨ i = ys.length)⟩
theorem turn_z {P : Program} {w : World} {K : PySem.W.Frag} {elts : List Expr} {kk : Nat} {tpos : Pos} (k1 k2 : SK) {a b z TI TO i1 i2 : Addr} (xs ys : List V) (D : ZipSep2 z TI TO i1 i2 [i1, a] [i2, b]) :
    Turn P w K (.Tuple elts kk tpos) (ItZ k1 k2 K a b xs ys) [z, TI, TO, i1, i2] z (fun i h => IsZip h z TI TO .none ∧ IsTupOf2 h TI (.ref i1) (.ref i2) ∧ (∃ x y, IsTupOf2 h TO x y) ∧ ItAt k1 h i1 a i ∧ ItAt k2 h i2 b i) where
  mem := by simp
  obj := fun i h st c hc => by
    obtain ⟨hz, hTI, ⟨x, y, hTO⟩, h1, h2⟩ := st
    have e' : c = z ∨ c = TI ∨ c = TO ∨ c = i1 ∨ c = i2 := by simpa using hc
    rcases e' with q | q | q | q | q
    · rw [q]; exact ⟨_, hz, fun v q => nomatch q⟩
    · rw [q]; exact ⟨_, hTI, fun v q => nomatch q⟩
    · rw [q]; exact ⟨_, hTO, fun v q => nomatch q⟩
    · rw [q]; exact itAt_obj h1
    · rw [q]; exact itAt_obj h2
  keep := fun i h h' st k => by
    obtain ⟨hz, hTI, ⟨x, y, hTO⟩, h1, h2⟩ := st
    exact ⟨k z (by simp) _ hz, k TI (by simp) _ hTI, ⟨x, y, k TO (by simp) _ hTO⟩, itAt_at h1 fun o q => k i1 (by simp) o q, itAt_at h2 fun o q => k i2 (by simp) o q⟩
  item := by
    intro X hP hw hK hc i pins s σ H E I hf st hg
    subst hP hw hK
    obtain ⟨hz, hTI, ⟨x0, y0, hTO⟩, h1, h2⟩ := st
    obtain ⟨hqx, hqy, hlx, hly⟩ := hg
    obtain ⟨its, rv, p⟩ := Inv.sq I hqx
    obtain ⟨its2, rv2, p2⟩ := Inv.sq I hqy
    have hh : X.A.in1.handled = none := I.ok.hd hc
    have D1 := draws (prog := X.prog) (w := X.w) hh k1 i1 a (itAt_ne h1 p) its
    have D2 := draws (prog := X.prog) (w := X.w) hh k2 i2 b (itAt_ne h2 p2) its2
    have hzl : z < s.heap.objs.size := Heap.lt_size hz
    refine wpAny_pyNext_zipD2_item D D1 D2 hz hTI hTO ⟨h1, p⟩ ⟨h2, p2⟩ (by rw [← rv.length]; exact hlx) (by rw [← rv2.length]; exact hly) fun u u2 h' tk hu hu2 z' TO' st1 st2 hT hsz hk => ?_
    obtain ⟨x, hx, ru⟩ : ∃ x, xs[i]? = some x ∧ RelV x u := by
      obtain ⟨u', hu', r'⟩ := rv.get (List.getElem?_eq_getElem hlx)
      rw [hu] at hu'; cases hu'
      exact ⟨_, List.getElem?_eq_getElem hlx, r'⟩
    obtain ⟨y, hy, ru2⟩ : ∃ y, ys[i]? = some y ∧ RelV y u2 := by
      obtain ⟨u', hu', r'⟩ := rv2.get (List.getElem?_eq_getElem hly)
      rw [hu2] at hu'; cases hu'
      exact ⟨_, List.getElem?_eq_getElem hly, r'⟩
    refine ⟨_, rfl, wpAny_letOwnedTupleGo_zip (s := { s with heap := h', toks := tk }) z' fun h'' z'' sb => ?_⟩
    have hT2 : h''.get? s.heap.objs.size = some { cls := .type "tuple", data := .seq #[u, u2] } := (sb.2 _ (Nat.ne_of_gt hzl)).trans hT
    have new : ObjOk X.prog X.w (upd H s.heap.objs.size (.frz (tupO [u, u2]) (.tup [x, y]))) h'' s.heap.objs.size (.frz (tupO [u, u2]) (.tup [x, y])) :=
      tupO_ok (by show 2 ≤ sizeLine; decide) (.cons ru (.cons ru2 .nil)) hT2
    have I1 : L2.Inv X pins σ (upd H s.heap.objs.size (.frz (tupO [u, u2]) (.tup [x, y]))) { s with heap := h'', toks := tk } :=
      I.turnedNew (ch := [z, TI, TO, i1, i2]) (fun c o hb q => (sb.2 c (fun q' => hb (by simp [q']))).trans (hk c o (fun q' => hb (by simp [q'])) (fun q' => hb (by simp [q'])) (fun q' => hb (by simp [q'])) (fun q' => hb (by simp [q'])) q)) hf (Nat.le_refl _) new
    have i1z : i1 ≠ z := fun e => D.zf1 (by rw [← e]; simp)
    have i2z : i2 ≠ z := fun e => D.zf2 (by rw [← e]; simp)
    refine ⟨.ref s.heap.objs.size, _, I1, rfl, ⟨_, x, y, _, rfl, I.hok.fresh (Nat.le_refl _), rfl, .new, hx, hy⟩, ⟨z'', ?_, ⟨u, u2, ?_⟩, ?_, ?_⟩, fun c hcm => ?_⟩
    · exact (sb.2 _ D.TIz).trans (hk _ _ D.TIz D.TITO D.TIi1 D.TIi2 hTI)
    · exact (sb.2 _ D.TOz).trans TO'
    · exact itAt_at st1.1 fun o q => (sb.2 _ i1z).trans q
    · exact itAt_at st2.1 fun o q => (sb.2 _ i2z).trans q
    · have hlt : c < s.heap.objs.size := by
        have e' : c = z ∨ c = TI ∨ c = TO ∨ c = i1 ∨ c = i2 := by simpa using hcm
        rcases e' with q | q | q | q | q
        · rw [q]; exact hzl
        · rw [q]; exact Heap.lt_size hTI
        · rw [q]; exact Heap.lt_size hTO
        · rw [q]; obtain ⟨_, e1, _⟩ := itAt_obj h1; exact Heap.lt_size e1
        · rw [q]; obtain ⟨_, e2, _⟩ := itAt_obj h2; exact Heap.lt_size e2
      rw [upd_ne (Nat.ne_of_lt hlt)]
      exact (hf c hcm).1
  done := by
    intro X hP hw hK hc i pins s σ H E I hf st hg
    subst hP hw hK
    obtain ⟨hz, hTI, ⟨x0, y0, hTO⟩, h1, h2⟩ := st
    obtain ⟨hqx, hqy, hlx, hly, hend⟩ := hg
    obtain ⟨its, rv, p⟩ := Inv.sq I hqx
    obtain ⟨its2, rv2, p2⟩ := Inv.sq I hqy
    have l1 := rv.length
    have l2 := rv2.length
    have hh : X.A.in1.handled = none := I.ok.hd hc
    have D1 := draws (prog := X.prog) (w := X.w) hh k1 i1 a (itAt_ne h1 p) its
    have D2 := draws (prog := X.prog) (w := X.w) hh k2 i2 b (itAt_ne h2 p2) its2
    exact wpAny_pyNext_zipD2_end D D1 D2 hz hTI hTO ⟨h1, p⟩ ⟨h2, p2⟩ (by omega) (by omega) (by omega) fun h' tk hk => ⟨rfl, I.turnedL (t' := tk) (ch := [z, TI, TO, i1, i2]) (fun c o hb q =>
      hk c o (fun q' => hb (by simp [q'])) (fun q' => hb (by simp [q'])) (fun q' => hb (by simp [q'])) (fun q' => hb (by simp [q'])) q) hf⟩
  self := fun A i s Q E st h => wpAny_pyIter_zip st.1 h
def iZp (K : PySem.W.Frag) (ta : TA) : TI := fun σ H R => ta σ H fun ws H1 => ∃ k1 k2 a b xs ys, ws = [.ref a, .ref b] ∧ Sq k1 K H1 a xs ∧ Sq k2 K H1 b ys ∧ R (ItZ k1 k2 K a b xs ys) H1
theorem holds_lt {k : SK} {h : Heap} {a : Addr} {its : List Value} (p : Holds k h a its) : a < h.objs.size := by
  cases k with
  | tup => obtain ⟨_, q, _⟩ := p; exact Heap.lt_size q
  | lst => obtain ⟨_, q, _⟩ := p; exact Heap.lt_size q
theorem pi_zp {X : Cx} {e e2 : Expr} {ta : TA} {p pos tpos : Pos} {elts : List Expr} {kk : Nat} (hg : Gl X "zip") (hm : X.mg "zip" = none) (ha : PA X [e, e2] ta)
    (hs : starEach [e, e2] X.env = (false, eval e X.env) :: starEach [e2] X.env) (hpl : (backTo pos (starEach [e2] X.env)).any (·.1) = false) :
    PI X (.Tuple elts kk tpos) (.Call (.Name "zip" p) [e, e2] [] pos) (iZp X.K ta) := by
  refine ⟨fun pins s σ H R I h => ?_⟩
  refine Call_ (ld_blt I hg hm PyProof.Rows.boot_zip (PyProof.Rows.callWith_type1 (thn (ha.run pos pins s σ H _ I h) fun us s1 ⟨ws, H1, I1, r1, q1⟩ => ?_) hs hpl))
  obtain ⟨k1, k2, a, b, xs, ys, ex, hqx, hqy, q⟩ := q1
  subst ex
  cases r1 with
  | cons r rr =>
    cases rr with
    | cons r' rr =>
      cases rr
      cases r
      cases r'
      obtain ⟨its, rv, p1⟩ := Inv.sq I1 hqx
      obtain ⟨its2, rv2, p2⟩ := Inv.sq I1 hqy
      have la := holds_lt p1
      have lb := holds_lt p2
      refine zip_begins2 (begins k1 a its) (begins k2 b its2) p1 p2 fun h' hz hTI hTO h1 h2 hsz hk => wpAny_pyIter_zip hz ?_
      have I2 : L2.Inv X pins σ H1 { s1 with heap := h' } := I1.kept (t' := s1.toks) hk
      have sep := zip_sep2 (N := s1.heap.objs.size) (fp1 := [a]) (fp2 := [b]) (by simpa using la) (by simpa using lb)
      refine ⟨s1.heap.objs.size + 4, [s1.heap.objs.size + 4, s1.heap.objs.size + 2, s1.heap.objs.size + 3, s1.heap.objs.size, s1.heap.objs.size + 1], _, _, H1, rfl, I2, turn_z k1 k2 xs ys sep, ⟨hz, hTI, ⟨_, _, hTO⟩, itAt_new h1, itAt_new h2⟩, fun c hcm => ?_, q⟩
      have e' : c = s1.heap.objs.size + 4 ∨ c = s1.heap.objs.size + 2 ∨ c = s1.heap.objs.size + 3 ∨ c = s1.heap.objs.size ∨ c = s1.heap.objs.size + 1 := by simpa using hcm
      have hle : s1.heap.objs.size ≤ c := by
        rcases e' with z | z | z | z | z
        · rw [z]; exact Nat.le_add_right _ _
        · rw [z]; exact Nat.le_add_right _ _
        · rw [z]; exact Nat.le_add_right _ _
        · rw [z]; exact Nat.le_refl _
        · rw [z]; exact Nat.le_add_right _ _
      exact I1.fpOk hle (I1.hok.fresh hle)
end RI
/-! RIG: promises of defs that are kept where nothing is just being shown by repr. -/
namespace RI
open PySem PySem.Spec PyProof.Rows L2
structure FnG (P : Program) (w : World) (K : PySem.W.Frag) (mg : Str → Option Value) (base : Heap) (cx : CXT) (k : Nat) (f : Addr) (fd : FuncData) (ps : List Str) (sp : Sp) : Prop where
  len : ∀ vs H Q E, sp vs H Q E → vs.length = ps.length
  run : ∀ (A : Around) (outer : List PySem.Env) (s : Shared) (H : Hp) (args : Args) (us : List Value) (vs : List V) (Q : VK) (E : XK), A.guards = some [] → Room k A →
    Env0 P w K mg base A outer s H → BindsTo s fd args (ps.zip us) → Vals vs us → sp vs H Q E → codeAny (model P w) A (.call (.ref f) args) (CR cx outer P w H s Q E) s
theorem gd_deeper {A : Around} {env : PySem.Env} (h : A.guards = some []) : (A.deeper env).guards = some [] := h
theorem gd_in1 {A : Around} (h : A.guards = some []) : A.in1.guards = some [] := h
theorem gd_make {A : Around} {C : Addr} {us : List Value} (h : A.guards = some []) : (A.under (.builtin "type.__call__" ⟨.ref C :: us, []⟩)).guards = some [] := by
  have e : (Code.builtin "type.__call__" ⟨.ref C :: us, []⟩).isGuard = false := by show guardIds.contains "type.__call__" = false; decide
  simp [Around.under, Code.guards, e, h, pushGuards]
section
variable {X : Cx} {cx : CXT} {k : Nat} {f : Addr} {fd : FuncData} {ps : List Str} {sp : Sp} {E : St → XK}
theorem FnG.call {pins : List (Addr × Obj)} {σ : St} {H : Hp} {s : Shared} {Q : VK} {us : List Value} {vs : List V} (F : FnG X.prog X.w X.K X.mg X.base cx k f fd ps sp) (gd : X.A.guards = some []) (hr : Room k X.A)
    (hb : Binds X.K fd ps []) (hx : PassesAt cx X σ (E σ)) (I : Inv X pins σ H s) (r : Vals vs us) (h : sp vs H Q (E σ)) : wpAny (model X.prog X.w) X.A (PySem.call (.ref f) us) (EP X pins σ Q) X.xe s := by
  have l : us.length = ps.length := r.length.symm.trans (F.len _ _ _ _ h)
  have bd := hb s us I.kIn (by simpa using l)
  simp only [List.append_nil] at bd
  have run := F.run X.A X.stack s H ⟨us, []⟩ us vs Q (E σ) gd hr I.env0 bd r h
  refine wpAny_call (codeAny_mono run ?_)
  intro res s2 q
  match res, q with
  | .error e, q => exact hx pins H s e s2 I q
  | .ok (.ret u), q => exact I.after q
  | .ok .next, q => exact (show False from q).elim
  | .ok .brk, q => exact (show False from q).elim
  | .ok .cont, q => exact (show False from q).elim
end
/-- a def by its body -/
theorem okG {P : Program} {w : World} {K : PySem.W.Frag} {mg : Str → Option Value} {base : Heap} {cx : CXT} {x qual : Str} {params : Arguments} {body : List Stmt} {scope : Scope} {dvs : List V} {kws : List (Str × V)} {f : Addr} {fd : FuncData} {N ps : List Str} {k : Nat} {sp : Sp}
    (F : FunD K x qual params body scope dvs kws f fd) (S : FnScope N ps scope) (len : ∀ vs H Q E, sp vs H Q E → vs.length = ps.length)
    (hbody : ∀ (cdv : Value) (A : Around) (outer : List PySem.Env) (s : Shared) (H : Hp) (vs : List V) (Q : VK) (E : XK), A.guards = some [] → Room k (A.deeper (envOfC qual scope s.heap.objs.size f cdv)) → sp vs H Q E →
      ∃ t, PSs (cxOf cx P w K mg base N qual scope f cdv A outer s H E) body t ∧ t { nx := fun _ H' => Q .non H', rt := Q } (start N vs) H) : FnG P w K mg base cx (k + 1) f fd ps sp := by
  obtain ⟨oc, od, dV, kV, doc, pm, an, cdv, ct, osl, rfl, lk, hcd, _, _⟩ := F.ex
  constructor
  · exact len
  intro A outer s H args us vs Q E gd hr e0 hb r hsp
  have old := fun b o e => (e0.bs b o e).1
  have KX : K.In s.heap := e0.mod.kin.keeps old
  have kinds : ∀ y ∈ ps.zip us, scope.names.lookup y.1 = some .local ∨ (scope.names.lookup y.1 = some .cell ∧ ((cellsFrom (s.heap.objs.size + 1) scope.names []).lookup y.1).isSome = true) := by
    rintro ⟨n, v⟩ hy
    rcases S.par n (List.of_mem_zip hy).1 with q | q
    · exact Or.inl q
    · exact Or.inr ⟨q, PySem.W.cellsFrom_some _ _ _ (Or.inl q)⟩
  refine codeAny_call_function hr.depth (KX _ _ lk) rfl S.co S.gen rfl (PySem.W.codeRec_of KX hcd) (hb _ _ _ _ ?_)
  refine wpAny_newFunctionEnv_cells S.kind kinds ?_
  intro env he s1 x
  subst he
  refine ⟨(e0.mod.nolimit.keeps old).keeps x.toInCall.keep, codeAny_func ?_⟩
  obtain ⟨t, ht, hq⟩ := hbody cdv A outer s H vs Q E gd (hr.deeper _) hsp
  have I := inv_start (CX := cx) (N := N) (E := E) S hr.hd e0 (len _ _ _ _ hsp) r x
  refine wpAny_mono (ht.run [] s1 (start N vs) H _ I hq) ?_ (fun _ _ q => q)
  intro fl s2 hs
  match fl, hs with
  | .ret u, ⟨v, σ', H', J, rv, q⟩ => exact ⟨v, H', J.os, J.bare, J.base, J.hok, rv, q⟩
  | .next, ⟨σ', H', J, q⟩ => exact ⟨V.non, H', J.os, J.bare, J.base, J.hok, rfl, q⟩
  | .brk, ⟨_, _, _, q⟩ => exact (show False from q).elim
  | .cont, ⟨_, _, _, q⟩ => exact (show False from q).elim
/-- the law's own call -/
theorem lawG {P : Program} {w : World} {K : PySem.W.Frag} {mg mb : Str → Option Value} {cx : CXT} {k : Nat} {fa a : Addr} {fd : FuncData} {x : Str} {sp : Sp} {s0 : Shared} {us : List Value} {ns : List Int} (KX : K.In s0.heap) (hns : s0.heap.Ns mainGlobals mg) (hb : s0.heap.Ns builtinsNs mb)
    (hbb : ∀ x : Str, x ≠ "__name__" → mb x = bootBuiltins x) (hlim : s0.heap.NoLimit) (hg : s0.gens = #[]) (ha : s0.heap.get? a = some { cls := .type "list", data := .seq us.toArray }) (hi : IntsAre us ns) (hl : ns.length ≤ sizeLine) (hr : Room k callerA)
    (F : ∀ base : Heap, K.In base → base.Ns mainGlobals mg → FnG P w K mg base cx k fa fd [x] sp) (hbind : ∀ (s : Shared) (u : Value), BindsTo s fd ⟨[u], []⟩ [(x, u)])
    (hsp : ∀ H : Hp, Only H → SqL K H a (ns.map V.int) → sp [.ref a] H (fun v _ => v = .bl true) fun _ _ _ => False) (hcx : ∀ H e s', cx [] H s0 (fun _ _ _ => False) e s' → False) :
    codeAny (model P w) callerA (.call (.ref fa) ⟨[.ref a], []⟩) (fun r s' => r = .ok (.ret (.bool true)) ∧ OldK s0.heap s'.heap ∧ s'.os = s0.os ∧ AllBare s'.gens) s0 := by
  have lu := hi.length
  have rv := vals_ints hi
  -- the script is tracked where it is no object of the text
  obtain ⟨H, hH⟩ : ∃ H : Hp, H = fun b => if b = a ∧ K.lookup a = none then some (.frz { cls := .type "list", data := .seq us.toArray } (.lst (ns.map V.int))) else none := ⟨_, rfl⟩
  have at_ : ∀ b u, H b = some u → b = a ∧ K.lookup a = none ∧ u = .frz { cls := .type "list", data := .seq us.toArray } (.lst (ns.map V.int)) := by
    intro b u e
    rw [hH] at e
    dsimp only at e
    split at e
    · next c => cases e; exact ⟨c.1, c.2, rfl⟩
    · cases e
  have only : Only H := fun b => by
    cases e : H b with
    | none => exact .inl rfl
    | some u => obtain ⟨_, _, rfl⟩ := at_ b u e; exact .inr ⟨_, _, rfl⟩
  have sq : SqL K H a (ns.map V.int) := by
    cases hk : K.lookup a with
    | none => exact .inl (.inr ⟨{ cls := .type "list", data := .seq us.toArray }, by rw [hH]; exact if_pos ⟨rfl, hk⟩⟩)
    | some o =>
      have e := KX a o hk
      rw [ha] at e
      cases e
      exact .inr ⟨_, us.toArray, _, hk, rfl, rfl, rfl, by rw [List.size_toArray, lu]; exact hl, by simpa using rv⟩
  have hok : HOk P w H s0.heap := by
    intro b u e
    obtain ⟨rfl, _, rfl⟩ := at_ b u e
    exact ⟨ha, by simpa using hl, us, _, rv, ha⟩
  -- what is not tracked is the ground
  have ground : ∀ {b : Addr} {o : Obj}, s0.heap.get? b = some o → (b = a → K.lookup a ≠ none) → (hidT s0.heap H).get? b = some o := fun {b o} e n => hidT_get e (by
    cases q : H b with
    | none => rfl
    | some u => obtain ⟨e1, e2, _⟩ := at_ b u q; exact absurd e2 (n e1))
  have kin : K.In (hidT s0.heap H) := fun b o e => ground (KX b o e) fun z => by subst z; rw [e]; simp
  have space : ∀ {b : Addr} {m : Str → Option Value}, s0.heap.Ns b m → (hidT s0.heap H).Ns b m := fun {b m} ⟨o, es, ep, e, d, r⟩ => ⟨o, es, ep, ground e (fun z => by
    subst z
    rw [ha] at e
    cases e
    cases d), d, r⟩
  have md : Mod K mg (hidT s0.heap H) := ⟨kin, space hns, ⟨mb, space hb, hbb⟩, by
    obtain ⟨mc, h1, h2⟩ := hlim
    exact ⟨mc, space h1, h2⟩⟩
  have none_in : ∀ b : Addr, b ∈ frs [] → H b = none := fun b z => by simp [frs] at z
  have e0 : Env0 P w K mg (hidT s0.heap H) callerA [] s0 H := { frames := rfl, mod := md, bs := fun b o e => of_hidT e, bsz := Nat.le_of_eq (hidT_size _ _), funs := trivial, frf := none_in, hok := hok, bare := .of_eq hg }
  have go := (F _ kin (space hns)).run callerA [] s0 H ⟨[.ref a], []⟩ [.ref a] [.ref a] _ _ rfl hr e0 (hbind s0 (.ref a)) (.cons rfl .nil) (hsp H only sq)
  refine codeAny_mono go ?_
  intro r s2 h
  match r, h with
  | .error e, h => exact (hcx H e s2 h).elim
  | .ok .next, h => exact (show False from h).elim
  | .ok .brk, h => exact (show False from h).elim
  | .ok .cont, h => exact (show False from h).elim
  | .ok (.ret u), ⟨v, H2, os, bare, un, hok2, r2, q⟩ =>
    obtain rfl : v = .bl true := q
    obtain rfl : u = Value.bool true := r2
    refine ⟨rfl, OldK.of_keep ?_, os, bare⟩
    intro b o e
    cases q : H b with
    | none => exact un.keep b o e q (by simp [frs]) (by simp)
    | some u =>
      obtain ⟨_, _, rfl⟩ := at_ b u q
      have k1 := (hok b _ q).1
      have k2 := (hok2 b _ (un.frzs b _ _ q)).1
      rw [e] at k1
      cases k1
      exact k2
theorem walkG {l : PySem.W.OpenLaw} {n k : Nat} {q : Program} {loose : List Str} {XP : (Str → Option Value) → Heap → Prop} {YP : World → Heap → Prop} {d : DefRec} {cx : CXT} {x : Str} (hn : l.most = some n) (hn2 : n ≤ sizeLine) (hdf : d.params.defaults = []) (hr : Room k callerA)
    (F : ∀ (w : World) (mg : Str → Option Value) (fa : Addr) (h : Heap), YP w h → h.Ns mainGlobals mg → mg d.name = some (.ref fa) → ∃ (K : PySem.W.Frag) (fd : FuncData) (sp : Sp), K.In h ∧ (∀ (s : Shared) (u : Value), BindsTo s fd ⟨[u], []⟩ [(x, u)]) ∧
      (∀ (H : Hp) (a : Addr) (ns : List Int), ns.length ≤ n → Only H → SqL K H a (ns.map V.int) → sp [.ref a] H (fun v _ => v = .bl true) fun _ _ _ => False) ∧ ∀ base : Heap, K.In base → base.Ns mainGlobals mg → FnG l.prog w K mg base cx k fa fd [x] sp)
    (hcx : ∀ (H : Hp) (s : Shared) (e : Value) (s' : Shared), cx [] H s (fun _ _ _ => False) e s' → False) : PySem.W.WalkO q loose XP YP l.row.toRowW d [] (fun f vs => PySem.call f vs) := by
  refine Att.attach_call hn hdf ?_
  intro w s₀ s1 mg mb fa o pm cd doc a us ns G Y ho hd hcd hmg hobj hints hlen hg
  obtain ⟨K, fd, sp, KX, hb, hsp, hF⟩ := F w mg fa _ Y G.T.g hmg
  exact lawG KX G.T.g G.T.b G.T.builtins G.T.nolimit hg hobj hints (Nat.le_trans hlen hn2) hr hF hb (fun H hO hS => hsp H a ns hlen hO hS) fun H e s' => hcx H s1 e s'
end RI
/-! RI8: the rules for expressions, by the evaluator. -/
namespace RI
open PySem PySem.Spec PyProof.Rows L2

theorem _root_.L2.PE.of {X : Cx} {e : Expr} {t t' : TE} (h : PE X e t) (k : ∀ σ H Q, t' σ H Q → t σ H Q) : PE X e t' := ⟨fun pins s σ H Q I q => h.run pins s σ H Q I (k σ H Q q)⟩
theorem _root_.L2.PT.of {X : Cx} {e : Expr} {t t' : TT} (h : PT X e t) (k : ∀ σ H Q, t' σ H Q → t σ H Q) : PT X e t' := ⟨fun pins s σ H Q I q => h.run pins s σ H Q I (k σ H Q q)⟩
theorem _root_.L2.PA.of {X : Cx} {e : List Expr} {t t' : TA} (h : PA X e t) (k : ∀ σ H Q, t' σ H Q → t σ H Q) : PA X e t' := ⟨fun pos pins s σ H Q I q => h.run pos pins s σ H Q I (k σ H Q q)⟩
theorem _root_.L2.PS.of {X : Cx} {e : Stmt} {t t' : TS} (h : PS X e t) (k : ∀ D σ H, t' D σ H → t D σ H) : PS X e t' := ⟨fun pins s σ H D I q => h.run pins s σ H D I (k D σ H q)⟩
theorem _root_.L2.PSs.of {X : Cx} {e : List Stmt} {t t' : TS} (h : PSs X e t) (k : ∀ D σ H, t' D σ H → t D σ H) : PSs X e t' := ⟨fun pins s σ H D I q => h.run pins s σ H D I (k D σ H q)⟩
/-- a def's promise: what the evaluator says of the call -/
def spF (G : Wd) (call : List W → Store → Res W) (np : Nat) : Sp := fun vs H Q E => ∃ ρ S ws, RelS G ρ S H ∧ RelWs G none (Live ρ S) ρ H ws vs ∧ ws.length = np ∧
  Sat G E ρ S H (call ws S) fun w ρ' S' H' => ∀ v, RelW G none (Live ρ' S') ρ' H' w v → Q v H'
def tyOk (P : Prog) : Ty → Bool
  | .cls c => ordC P c
  | .none => false
  | .dict => false
  | .valueError => false
  | _ => true
structure FOk (G : Wd) (X : Cx) (k : Nat) (call : List W → Store → Res W) (f : Nat) (np : Nat) : Prop where
  ex : ∃ (fd : FuncData) (ps : List Str), ps.length = np ∧ FnG X.prog X.w X.K X.mg X.base (L2.CX X.prog X.w) k (G.fa f) fd ps (spF G call np) ∧ Binds X.K fd ps []
  kp : PySem.W.keepIn X.K (.ref (G.fa f)) = true
structure ClsF (G : Wd) (K : PySem.W.Frag) (P : Prog) (c : Nat) : Prop where
  cls : Cls K (G.ca c)
  kp : PySem.W.keepIn K (.ref (G.ca c)) = true
  ha : PySem.W.findIn K (.ref (G.ca c)) "__class__" = some (some (.builtin "object.__class__"))
  hn : PySem.W.specialIn K (.builtin "object.__class__") "__get__" = some (some (.builtin "getset_descriptor.__get__"))
  htk : PySem.W.takesIn K (.builtin "object.__class__") = some true
  hm : PySem.W.mroIn K (G.ca c) (.type "object") = some true
  na : ∀ f ∈ P.flds, NoAttr K (G.ca c) (G.nm f)
structure EqF (G : Wd) (K : PySem.W.Frag) (P : Prog) (c f : Nat) : Prop where
  eq : PySem.W.findIn K (.ref (G.ca c)) "__eq__" = some (some (.ref (G.fa f)))
  ne : PySem.W.findIn K (.ref (G.ca c)) "__ne__" = some (some (.builtin "object.__ne__"))
  fn : PySem.W.isFn K (.ref (G.fa f)) = true
  sT : PySem.W.subIn K (.type "tuple") (.ref (G.ca c)) = some false
  sN : PySem.W.subIn K (.type "NoneType") (.ref (G.ca c)) = some false
  hm : PySem.W.mroIn K (G.ca c) (.type "object") = some true
  ord : ordC P c = true
  sC : ∀ c', supC P c c' = true → c ≠ c' → PySem.W.subIn K (.ref (G.ca c')) (.ref (G.ca c)) = some false
/-- what the __init__ of an error class does: self.f = v -/
def spX (G : Wd) (c f : Nat) : Sp := fun vs H Q _ => ∃ (a : Addr) (v : V), vs = [.ref a, v] ∧ H a = some (exo a (G.ca c) none) ∧
  ∀ dx, H dx = none → dx ≠ a → Q .non (upd (upd H dx (exd dx [(G.nm f, v)])) a (exo a (G.ca c) (some dx)))
def tyX (P : Prog) : Ty → Bool
  | .valueError => true
  | .cls c => excC P c
  | _ => false
/-- an error class -/
structure ExF (G : Wd) (Pm : Program) (w : World) (K : PySem.W.Frag) (mg : Str → Option Value) (base : Heap) (P : Prog) (c : Nat) (fs : List Nat) : Prop where
  kC : PySem.W.keepIn K (.ref (G.ca c)) = true
  tyC : PySem.W.typeIn K (.ref (G.ca c)) = some (.type "type")
  cl : ExcC K (G.ca c)
  own : fs = [] → PySem.W.excIn K (G.ca c) veB "ValueError.__new__" = true
  ini : ∀ f, fs = [f] → OexC K (G.ca c) ∧ ∃ (fI : Addr) (fd : FuncData) (ps : List Str), PySem.W.findIn K (.ref (G.ca c)) "__init__" = some (some (.ref fI)) ∧ PySem.W.typeIn K (.ref fI) = some (.type "function") ∧
    FnOk Pm w K mg base CX0 1 fI fd ps (spX G c f) ∧ Binds K fd ps []
  one : fs.length ≤ 1
  nof : ∀ f, P.flds.contains f = true → PySem.W.findIn K (.ref (G.ca c)) (G.nm f) = some none
  exm : ∀ c', excC P c' = true → PySem.W.exmOne K (.ref (G.ca c)) (.ref (G.ca c')) = some (tyIs P (.cls c) (.cls c'))
  kit : ∀ u, tyX P u = true → PySem.W.kitOne K (.ref (G.ca c)) (tyVal G u) = some (tyIs P (.cls c) u)
/-- a written dict of the module: its place, what it holds -/
def TabF (G : Wd) (K : PySem.W.Frag) (w : World) (mg : Str → Option Value) (T : List (List Nat × D)) (x : Str) : Prop :=
  ∃ a es n, mg x = some (.ref a) ∧ K.lookup a = some ⟨.type "dict", none, .dict es n, #[]⟩ ∧ PySem.W.KeysLit w.params es.toList ∧ (a == sysModules) = false ∧
    ∀ s, match tabD T s with
      | some d => ∃ v u, PySem.W.nsIn K a (Str' s) = some (some u) ∧ RelV v u ∧ ∀ L H, RelD G L H d v
      | none => PySem.W.nsIn K a (Str' s) = some none
/-- what is known where an expression is run -/
structure Sd (G : Wd) (Wx : L2.WX) (C : Ctx) (k : Nat) (X : Cx) : Prop where
  hK : X.K = G.K
  nd : X.N.Nodup
  tk : L2.Takes X Wx
  un : X.A.units + 66 < cLine
  room : X.calm = true → Room (k + 1) X.A
  gd : X.A.guards = some []
  fok : ∀ f fd, C.P.fns[f]? = some fd → FOk G X k (C.call f) f fd.np
  fmg : ∀ f fd, C.P.fns[f]? = some fd → fd.top = true → X.mg fd.name = some (.ref (G.fa f))
  cmg : ∀ c d, C.P.cls[c]? = some d → X.mg d.name = some (.ref (G.ca c))
  bmg : ∀ x ∈ bltNames, X.mg x = none
  cst : ∀ (k : Nat) d x, C.P.consts[k]? = some d → C.P.cnm[k]? = some x → ∃ v u, X.mg x = some u ∧ RelV v u ∧ ∀ L H, RelD G L H d v
  tab : ∀ (i : Nat) T x, C.P.tabs[i]? = some T → C.P.tnm[i]? = some x → TabF G X.K X.w X.mg T x
  hex : ∀ c, G.exc c = excC C.P c
  clf : ∀ c, ordC C.P c = true → ClsF G X.K C.P c
  mkf : ∀ c d f, C.P.cls[c]? = some d → d.init = some f → Mk X.K (G.ca c) (G.fa f)
  eqm : ∀ c d f, C.P.cls[c]? = some d → lookN 0 d.meths = some f → EqF G X.K C.P c f ∧ ∃ fd, C.P.fns[f]? = some fd ∧ fd.np = 2
  mth : ∀ c d m f, C.P.cls[c]? = some d → ordC C.P c = true → (m, f) ∈ d.meths → Meth X.K (G.ca c) (G.nm m) (G.fa f)
  exf : ∀ c d fs, C.P.cls[c]? = some d → d.exc = some fs → ExF G X.prog X.w X.K X.mg X.base C.P c fs
  nmI : ∀ f g, G.nm f = G.nm g → f = g
  kit : ∀ t u, tyOk0 C.P t = true → tyOk C.P u = true → PySem.W.kitOne X.K (tyVal G t) (tyVal G u) = some (tyIs C.P t u)

theorem Sd.ordx {G : Wd} {Wx : L2.WX} {C : Ctx} {k : Nat} {X : Cx} (S : Sd G Wx C k X) {c : Nat} (h : ordC C.P c = true) : G.exc c = false := by
  rw [S.hex]
  cases e : excC C.P c with
  | false => rfl
  | true => exact (ord_exc h e).elim
abbrev RE (G : Wd) (ex : Ex) (Wx : L2.WX) (C : Ctx) (e : IE) : TE := RdE G ex Wx (evalP C e).1
abbrev RT (G : Wd) (ex : Ex) (Wx : L2.WX) (C : Ctx) (e : IE) : TT := RdT G ex Wx (evalP C e).2
abbrev REs (G : Wd) (ex : Ex) (Wx : L2.WX) (C : Ctx) (es : IEs) : TA := RdEs G ex Wx (evalEs C es)

section
variable {G : Wd} {ex : Ex} {Wx : L2.WX} {C : Ctx} {k : Nat} {X : Cx} {pos p p2 : Pos} {x : Str} {i : Nat} {a b c : Expr} {ia ib ic : IE}

theorem Res.bind_assoc {α β γ : Type} (r : Res α) (f : α → Store → Res β) (g : β → Store → Res γ) : (r.bind f).bind g = r.bind fun a S => (f a S).bind g := by cases r <;> rfl
/-- a value that is at hand -/
theorem rd_ok {m : Env → Store → Res W} {σ : St} {H : Hp} {Q : VK} {v : V} {w : W} (r : ∀ L ρ, RelW G ex L ρ H w v) (e : ∀ η S, m η S = .ok w S) (q : RdE G ex Wx m σ H Q) : Q v H := by
  obtain ⟨ρ, η, S, R, h⟩ := q
  rw [e] at h
  exact h.now R.st v (r _ _)

theorem e_var (hN : X.N[i]? = some x) (hv : Vis X.env.scope x) (hd : (x == ("__debug__" : Str)) = false := by decide) (hcd : (x == ("__classdict__" : Str)) = false := by decide) : PE X (.Name x pos) (RE G ex Wx C (.var i)) :=
  (pe_var hN hv hd hcd).of fun σ H Q ⟨ρ, η, S, R, h⟩ => by
    obtain ⟨w, e, h2⟩ := Sat.ofO (show Sat _ _ _ _ _ (ofO (getV η i) S) _ from h)
    obtain ⟨v, e2, r⟩ := R.get e
    exact ⟨v, e2, h2.now R.st v r⟩
theorem e_int {j : Int} {kk} : PE X (.Constant (.int j) kk pos) (RE G ex Wx C (.int j)) := pe_int.of fun σ H Q q => rd_ok (fun _ _ => .d (.int j)) (fun _ _ => rfl) q
theorem e_bl {j : Bool} {kk} : PE X (.Constant (.bool j) kk pos) (RE G ex Wx C (.bl j)) := pe_bl.of fun σ H Q q => rd_ok (fun _ _ => .d (.bl j)) (fun _ _ => rfl) q
theorem e_non {kk} : PE X (.Constant .none kk pos) (RE G ex Wx C .non) := pe_non.of fun σ H Q q => rd_ok (fun _ _ => .d .non) (fun _ _ => rfl) q
theorem e_str {s : Str} {t : List Nat} {kk} (h : s = Str' t := by rfl) : PE X (.Constant (.str s) kk pos) (RE G ex Wx C (.str t)) := pe_str.of fun σ H Q q => rd_ok (fun _ _ => h ▸ .d (.str t)) (fun _ _ => rfl) q
theorem e_glob (S : Sd G Wx C k X) {d : D} (hg : Gl X x) (h1 : C.P.consts[i]? = some d) (h2 : C.P.cnm[i]? = some x) (hd : (x == ("__debug__" : Str)) = false := by decide) : PE X (.Name x pos) (RE G ex Wx C (.glob i)) := by
  obtain ⟨v, u, hm, r, hr⟩ := S.cst i d x h1 h2
  exact (pe_glob hg hm r hd).of fun σ H Q q => rd_ok (w := .d d) (fun _ _ => .d (hr _ _)) (fun η S => by show (ofO C.P.consts[i]? S).bind _ = _; rw [h1]; rfl) q
theorem e_fnv (S : Sd G Wx C k X) {fd : FnD} (hg : Gl X x) (h1 : C.P.fns[i]? = some fd) (h2 : fd.name = x) (h3 : fd.top = true) (hd : (x == ("__debug__" : Str)) = false := by decide) : PE X (.Name x pos) (RE G ex Wx C (.fnv i)) := by
  subst h2
  exact (pe_glob hg (S.fmg i fd h1 h3) (v := .ref (G.fa i)) rfl hd).of fun σ H Q q => rd_ok (fun _ _ => .d (.fn i)) (fun _ _ => rfl) q

theorem es_nil : PA X [] (REs G ex Wx C .nil) := ⟨fun pos pins s σ H Q I ⟨ρ, η, S, R, h⟩ => pa_nil.run pos pins s σ H Q I ((show Sat _ _ _ _ _ (.ok [] S) _ from h).now R.st [] .nil)⟩
theorem es_cons {es : List Expr} {ies : IEs} (ha : PE X a (RE G ex Wx C ia)) (hr : PA X es (REs G ex Wx C ies)) (hs : starEach (a :: es) X.env = (false, eval a X.env) :: starEach es X.env := by rfl) : PA X (a :: es) (REs G ex Wx C (.cons ia ies)) :=
  (pa_cons ha hr hs).of fun σ H Q ⟨ρ, η, S, R, h⟩ => rd1 (f := fun w S1 => (evalEs C ies η S1).bind fun ws S2 => .ok (w :: ws) S2) R h fun w v ρ1 S1 H1 R1 e1 r1 h1 => rd1s R1 h1 fun ws vs ρ2 S2 H2 R2 e2 r2 h2 => h2.now R2.st (v :: vs) (.cons (r1.mono e2.kp e2.pre) r2)
theorem evalEs_len {C : Ctx} {η : Env} : ∀ (es : IEs) (S : Store) (ws : List W) (S' : Store), evalEs C es η S = .ok ws S' → ws.length = es.len
  | .nil, S, ws, S', h => by cases (show Res.ok [] S = .ok ws S' from h); rfl
  | .cons e es, S, ws, S', h => by
    replace h : (((evalP C e).1 η S).bind fun w S1 => (evalEs C es η S1).bind fun ws S2 => .ok (w :: ws) S2) = .ok ws S' := h
    cases h1 : (evalP C e).1 η S with
    | ok w S1 =>
      rw [h1, Res.bind_ok] at h
      cases h2 : evalEs C es η S1 with
      | ok us S2 =>
        rw [h2, Res.bind_ok] at h
        cases h
        exact congrArg (· + 1) (evalEs_len es S1 us _ h2)
      | exc c fs S2 => rw [h2] at h; cases h
      | stk => rw [h2] at h; cases h
    | exc c fs S2 => rw [h1] at h; cases h
    | stk => rw [h1] at h; cases h
theorem evalEs_bind {β : Type} {C : Ctx} {η : Env} (es : IEs) (S : Store) (f : List W → Store → Res β) : (evalEs C es η S).bind f = (evalEs C es η S).bind fun ws S1 => if ws.length = es.len then f ws S1 else .stk := by
  cases h : evalEs C es η S with
  | ok ws S1 => simp [evalEs_len es S ws S1 h]
  | exc c fs S2 => rfl
  | stk => rfl
/-- a list of written values, with its length -/
theorem rd1n {ies : IEs} {ρ : Rho} {S : Store} {H : Hp} {σ : L2.St} {η : Env} {α : Type} {P : α → Rho → Store → Hp → Prop} {f : List W → Store → Res α} {Q : List V → Hp → Prop} (R : RelAll G ex ρ η S σ H) (h : Sat G (fun c d H => Wx c d σ H) ρ S H ((evalEs C ies η S).bind f) P)
    (k : ∀ ws vs ρ1 S1 H1, RelAll G ex ρ1 η S1 σ H1 → Ext ρ S H ρ1 S1 H1 → RelWs G ex (Live ρ1 S1) ρ1 H1 ws vs → vs.length = ies.len → Sat G (fun c d H => Wx c d σ H) ρ1 S1 H1 (f ws S1) P → Q vs H1) : REs G ex Wx C ies σ H Q := by
  rw [evalEs_bind] at h
  refine rd1s R h fun ws vs ρ1 S1 H1 R1 e1 r1 h1 => ?_
  split at h1
  · next e => exact k ws vs ρ1 S1 H1 R1 e1 r1 (by rw [← r1.length]; exact e) h1
  · exact h1.elim
theorem RelAll.newObj {ρ : Rho} {S : Store} {H : Hp} {σ : L2.St} {η : Env} {p : Addr} {o : HO} (R : RelAll G ex ρ η S σ H) (hp : H p = none) : RelAll G ex ρ η S σ (upd H p o) := R.mono (Ext.newObj hp) (R.st.newObj hp)
/-- the answer may come later -/
theorem Sat.after {α : Type} {ρ ρ1 : Rho} {S S1 : Store} {H H1 : Hp} {W' : XK} {z : α} {P : α → Rho → Store → Hp → Prop} (h : Sat G W' ρ S H (.ok z S1) P) (e : Ext ρ S H ρ1 S1 H1) (R : RelS G ρ1 S1 H1) : P z ρ1 S1 H1 := h ρ1 H1 e R
theorem e_tup {es : List Expr} {ies : IEs} {kk} (h : PA X es (REs G ex Wx C ies)) (hl : ies.len ≤ sizeLine := by decide) : PE X (.Tuple es kk pos) (RE G ex Wx C (.tup ies)) :=
  (pe_tupN h).of fun σ H Q ⟨ρ, η, S, R, h0⟩ => rd1n (f := fun ws S1 => (toDs ws S1).bind fun xs S2 => .ok (W.d (.tup xs)) S2) R h0 fun ws vs ρ1 S1 H1 R1 e1 r1 l1 h1 => by
    obtain ⟨xs, S2, e2, R2, r2, h2⟩ := h1.toDs_bind R1.st r1
    exact ⟨by rw [l1]; exact hl, fun p u hp hu => (h2.from (Ext.newObj (o := u) hp)).now (R2.newObj hp) _ (.d (RelD.newTup R2 hp hu r2))⟩
theorem e_lst {es : List Expr} {ies : IEs} (h : PA X es (REs G ex Wx C ies)) (hl : ies.len ≤ sizeLine := by decide) : PE X (.List es pos) (RE G ex Wx C (.lst ies)) :=
  (pe_lst h).of fun σ H Q ⟨ρ, η, S, R, h0⟩ => rd1n (f := fun ws S1 => (toDs ws S1).bind fun xs S2 => .ok (W.d (.lst xs)) S2) R h0 fun ws vs ρ1 S1 H1 R1 e1 r1 l1 h1 => by
    obtain ⟨xs, S2, e2, R2, r2, h2⟩ := h1.toDs_bind R1.st r1
    exact ⟨by rw [l1]; exact hl, fun p hp => (h2.from (Ext.newObj (o := .lst vs) hp)).now (R2.newObj hp) _ (.d (RelD.newLst R2 hp r2))⟩
/-- a new list that is written later on: it gets a cell -/
theorem RelAll.newCell {ρ : Rho} {S : Store} {H : Hp} {σ : L2.St} {η : Env} {p : Addr} {o : HO} {c : Cell} (R : RelAll G ex ρ η S σ H) (hp : H p = none) (hc : RelC G (Live (ρ.app [p]) (S ++ [c])) (ρ.app [p]) (upd H p o) c p) :
    RelAll G ex (ρ.app [p]) η (S ++ [c]) σ (upd H p o) := R.mono (Ext.newCell R.st hp) (R.st.newCell hp hc)
theorem app_get (ρ : Rho) (p : Addr) : (ρ.app [p]).l[ρ.l.length]? = some p := by
  show (ρ.l ++ [p])[ρ.l.length]? = some p
  simp
theorem RelS.newLst {ρ : Rho} {S : Store} {H : Hp} {p : Addr} {xs : List D} {vs : List V} (R : RelS G ρ S H) (hp : H p = none) (h : RelDs G (Live ρ S) H xs vs) :
    RelS G (ρ.app [p]) (S ++ [.lst xs]) (upd H p (.lst vs)) := R.newCell hp (.lst (upd_same ..) (h.mono (Ext.newCell R hp).kp))
theorem e_lstT {es : List Expr} {ies : IEs} (h : PA X es (REs G ex Wx C ies)) (hl : ies.len ≤ sizeLine := by decide) : PE X (.List es pos) (RE G ex Wx C (.thaw (.lst ies))) :=
  (pe_lst h).of fun σ H Q ⟨ρ, η, S, R, h0⟩ => by
    replace h0 : Sat G (fun c d H => Wx c d σ H) ρ S H (((evalEs C ies η S).bind fun ws S1 => (toDs ws S1).bind fun xs S2 => .ok (W.d (.lst xs)) S2).bind fun w S1 => thawD w S1) _ := h0
    have hb : (((evalEs C ies η S).bind fun ws S1 => (toDs ws S1).bind fun xs S2 => .ok (W.d (.lst xs)) S2).bind fun w S1 => thawD w S1) = (evalEs C ies η S).bind fun ws S1 => (toDs ws S1).bind fun xs S2 => .ok (W.loc S2.length) (S2 ++ [.lst xs]) := by
      cases evalEs C ies η S with
      | ok ws S1 =>
        show ((toDs ws S1).bind _).bind _ = (toDs ws S1).bind _
        cases toDs ws S1 <;> rfl
      | exc c fs S2 => rfl
      | stk => rfl
    rw [hb] at h0
    refine rd1n R h0 fun ws vs ρ1 S1 H1 R1 e1 r1 l1 h1 => ?_
    obtain ⟨xs, S2, e2, R2, r2, h2⟩ := h1.toDs_bind R1.st r1
    refine ⟨by rw [l1]; exact hl, fun p hp => ?_⟩
    exact h2.after (Ext.newCell (c := .lst xs) (o := .lst vs) R2 hp) (R2.newLst hp r2) _ (.loc (by rw [← R2.len]; exact app_get _ _))
theorem e_bin {o : BOp} {op : Operator} (S : Sd G Wx C k X) (ha : PE X a (RE G ex Wx C ia)) (hb : PE X b (RE G ex Wx C ib)) (ho : op = o.op := by rfl) : PE X (.BinOp a op b pos) (RE G ex Wx C (.bin o ia ib)) := by
  subst ho
  exact (pe_op (or_bin (o := o) (G := G) (ex := ex) S.hK) ha hb).of fun σ H Q ⟨ρ, η, S, R, h0⟩ => rd1 (f := fun x S1 => ((evalP C ib).1 η S1).bind fun y S2 => (ofO (binD o x y S2) S2).bind fun z S3 => .ok (W.d z) S3) R h0 fun w v ρ1 S1 H1 R1 e1 r1 h1 =>
    rd1 R1 h1 fun w2 v2 ρ2 S2 H2 R2 e2 r2 h2 => by
      obtain ⟨z, ez, h3⟩ := h2.ofO_bind
      exact ⟨ρ2, S2, w, w2, z, R2.st, r1.mono e2.kp e2.pre, r2, ez, fun v' H' e3 R3 r3 => h3.after e3 R3 v' (.d r3)⟩
theorem e_neg (ha : PE X a (RE G ex Wx C ia)) : PE X (.UnaryOp .USub a pos) (RE G ex Wx C (.neg ia)) :=
  (pe_un un_neg ha).of fun σ H Q ⟨ρ, η, S, R, h0⟩ => rd1 (f := fun x S1 => match x with
    | .d (.int i) => .ok (W.d (.int (-i))) S1
    | _ => .stk) R h0 fun w v ρ1 S1 H1 R1 e1 r1 h1 => by
      cases r1 with
      | d r1 =>
        cases r1 with
        | int i => exact ⟨i, rfl, h1.now R1.st _ (.d (.int _))⟩
        | _ => exact (show False from h1).elim
      | _ => exact (show False from h1).elim
theorem e_not (S : Sd G Wx C k X) (ha : PE X a (RE G ex Wx C ia)) : PE X (.UnaryOp .Not a pos) (RE G ex Wx C (.not ia)) :=
  (pe_notT ha).of fun σ H Q ⟨ρ, η, St, R, h0⟩ => rd1 (f := fun x S1 => (ofO (truthy x S1) S1).bind fun b S2 => .ok (W.d (.bl (!b))) S2) R h0 fun w v ρ1 S1 H1 R1 e1 r1 h1 => by
    obtain ⟨z, ez, h3⟩ := h1.ofO_bind
    exact ⟨z, tru_of S.hK R1.st r1 ez, h3.now R1.st _ (.d (.bl _))⟩
theorem cmpW_plain {C : Ctx} {o : COp} (hq : o ≠ .eq ∧ o ≠ .ne) (x y : W) (S : Store) : cmpW C o x y S = (ofO (cmpD o x y S) S).bind fun k S1 => .ok (.d (.bl k)) S1 := by
  cases o <;> first | rfl | exact absurd rfl hq.1 | exact absurd rfl hq.2
/-- no class has an == of its own, or the values are no objects -/
theorem e_cmp {o : COp} {op : CmpOp} (S : Sd G Wx C k X) (ha : PE X a (RE G ex Wx C ia)) (hb : PE X b (RE G ex Wx C ib)) (hq : o ≠ .eq ∧ o ≠ .ne := by decide) (hm : behindInMarks op b = false := by with_unfolding_all rfl) (ho : op = o.op := by rfl) :
    PE X (.Compare a [op] [b] pos) (RE G ex Wx C (.cmp o ia ib)) := by
  subst ho
  exact (pe_cmpR (or_cmp (o := o) (G := G) (ex := ex) S.hK (by have := S.un; omega)) ha hb hm).of fun σ H Q ⟨ρ, η, St, R, h0⟩ => rd1 (f := fun x S1 => ((evalP C ib).1 η S1).bind fun y S2 => cmpW C o x y S2) R h0 fun w v ρ1 S1 H1 R1 e1 r1 h1 =>
    rd1 R1 h1 fun w2 v2 ρ2 S2 H2 R2 e2 r2 h2 => by
      rw [cmpW_plain hq] at h2
      obtain ⟨z, ez, h4⟩ := h2.ofO_bind
      exact ⟨ρ2, S2, w, w2, z, R2.st, r1.mono e2.kp e2.pre, r2, ez, h4.now R2.st _ (.d (.bl z))⟩
theorem e_chain {o o' : COp} {op op' : CmpOp} (S : Sd G Wx C k X) (ha : PE X a (RE G ex Wx C ia)) (hb : PE X b (RE G ex Wx C ib)) (hc : PE X c (RE G ex Wx C ic)) (hm : lastMarks [op, op'] [b, c] = false := by with_unfolding_all rfl) (ho : op = o.op := by rfl) (ho' : op' = o'.op := by rfl) :
    PE X (.Compare a [op, op'] [b, c] pos) (RE G ex Wx C (.chain o o' ia ib ic)) := by
  subst ho ho'
  have hu : X.A.units + 65 < cLine := by have := S.un; omega
  exact (pe_chain (or_cmp (o := o) (G := G) (ex := ex) S.hK hu) (or_cmp (o := o') (G := G) (ex := ex) S.hK hu) ha hb hc hm).of fun σ H Q ⟨ρ, η, St, R, h0⟩ => rd1 (f := fun x S1 => ((evalP C ib).1 η S1).bind fun y S2 => (ofO (cmpD o x y S2) S2).bind fun k S3 =>
      if k = true then ((evalP C ic).1 η S3).bind fun z S4 => (ofO (cmpD o' y z S4) S4).bind fun k' S5 => .ok (W.d (.bl k')) S5 else .ok (.d (.bl false)) S3) R h0 fun w v ρ1 S1 H1 R1 e1 r1 h1 =>
    rd1 R1 h1 fun w2 v2 ρ2 S2 H2 R2 e2 r2 h2 => by
      obtain ⟨z, ez, h4⟩ := h2.ofO_bind
      refine ⟨ρ2, S2, w, w2, z, R2.st, r1.mono e2.kp e2.pre, r2, ez, z, rfl, ?_⟩
      cases z with
      | false => exact h4.now R2.st _ (.d (.bl false))
      | true =>
        refine rd1 R2 h4 fun w3 v3 ρ3 S3 H3 R3 e3 r3 h5 => ?_
        obtain ⟨z', ez', h6⟩ := h5.ofO_bind
        exact ⟨ρ3, S3, w2, w3, z', R3.st, r2.mono e3.kp e3.pre, r3, ez', h6.now R3.st _ (.d (.bl z'))⟩
theorem RelD.is_non {L : Addr → Prop} {H : Hp} {d : D} {v : V} (h : RelD G L H d v) : v = .non ↔ d = .non := by
  cases h <;> simp
theorem e_isn {kk} (ha : PE X a (RE G ex Wx C ia)) : PE X (.Compare a [.Is] [.Constant .none kk p] pos) (RE G ex Wx C (.isn false ia)) :=
  (pe_cmpR op_isN ha (pe_non (X := X) (j := kk) (pos := p)) rfl).of fun σ H Q ⟨ρ, η, St, R, h0⟩ => rd1 (f := fun x S1 => match x with
    | .d .non => .ok (W.d (.bl (!false))) S1
    | _ => .ok (.d (.bl false)) S1) R h0 fun w v ρ1 S1 H1 R1 e1 r1 h1 => by
      refine ⟨rfl, ?_⟩
      cases r1 with
      | d r1 => cases r1 <;> (simp only [reduceCtorEq, decide_false, decide_true]; exact h1.now R1.st _ (.d (.bl _)))
      | _ => simp only [reduceCtorEq, decide_false]; exact h1.now R1.st _ (.d (.bl _))
theorem e_isnt {kk} (ha : PE X a (RE G ex Wx C ia)) : PE X (.Compare a [.IsNot] [.Constant .none kk p] pos) (RE G ex Wx C (.isn true ia)) :=
  (pe_cmpR op_notN ha (pe_non (X := X) (j := kk) (pos := p)) rfl).of fun σ H Q ⟨ρ, η, St, R, h0⟩ => rd1 (f := fun x S1 => match x with
    | .d .non => .ok (W.d (.bl (!true))) S1
    | _ => .ok (.d (.bl true)) S1) R h0 fun w v ρ1 S1 H1 R1 e1 r1 h1 => by
      refine ⟨rfl, ?_⟩
      cases r1 with
      | d r1 => cases r1 <;> (simp only [reduceCtorEq, decide_false, decide_true]; exact h1.now R1.st _ (.d (.bl _)))
      | _ => simp only [reduceCtorEq, decide_false]; exact h1.now R1.st _ (.d (.bl _))
theorem e_ifx (hc : PT X c (RT G ex Wx C ic)) (ha : PE X a (RE G ex Wx C ia)) (hb : PE X b (RE G ex Wx C ib)) : PE X (.IfExp c a b pos) (RE G ex Wx C (.ifx ic ia ib)) :=
  (pe_ifExp hc ha hb).of fun σ H Q ⟨ρ, η, St, R, h0⟩ => rd1t (f := fun k S1 => if k = true then (evalP C ia).1 η S1 else (evalP C ib).1 η S1) R h0 fun z ρ1 S1 H1 R1 e1 h1 => by
    cases z with
    | true => exact ⟨ρ1, η, S1, R1, h1⟩
    | false => exact ⟨ρ1, η, S1, R1, h1⟩
/-! ### and, or -/
theorem e_one {op} (h : PE X a (RE G ex Wx C ia)) : PE X (.BoolOp op [a] pos) (RdE G ex Wx (evalAnd C (.cons ia .nil)).1) := pe_one h
theorem e_oneO {op} (h : PE X a (RE G ex Wx C ia)) : PE X (.BoolOp op [a] pos) (RdE G ex Wx (evalOr C (.cons ia .nil)).1) := pe_one h
theorem e_and2 {i2 : IE} {ies : IEs} {rest : List Expr} (S : Sd G Wx C k X) (ha : PE X a (RE G ex Wx C ia)) (hb : PE X (.BoolOp .And (b :: rest) pos) (RdE G ex Wx (evalAnd C (.cons i2 ies)).1)) :
    PE X (.BoolOp .And (a :: b :: rest) pos) (RdE G ex Wx (evalAnd C (.cons ia (.cons i2 ies))).1) :=
  (pe_andT ha hb).of fun σ H Q ⟨ρ, η, St, R, h0⟩ => rd1 (f := fun x S1 => (ofO (truthy x S1) S1).bind fun k S2 => if k = true then (evalAnd C (.cons i2 ies)).1 η S2 else .ok x S2) R h0 fun w v ρ1 S1 H1 R1 e1 r1 h1 => by
    obtain ⟨z, ez, h3⟩ := h1.ofO_bind
    refine ⟨z, tru_of S.hK R1.st r1 ez, ?_⟩
    cases z with
    | true => exact ⟨ρ1, η, S1, R1, h3⟩
    | false => exact h3.now R1.st _ r1
theorem e_or2 {i2 : IE} {ies : IEs} {rest : List Expr} (S : Sd G Wx C k X) (ha : PE X a (RE G ex Wx C ia)) (hb : PE X (.BoolOp .Or (b :: rest) pos) (RdE G ex Wx (evalOr C (.cons i2 ies)).1)) :
    PE X (.BoolOp .Or (a :: b :: rest) pos) (RdE G ex Wx (evalOr C (.cons ia (.cons i2 ies))).1) :=
  (pe_orT ha hb).of fun σ H Q ⟨ρ, η, St, R, h0⟩ => rd1 (f := fun x S1 => (ofO (truthy x S1) S1).bind fun k S2 => if k = true then .ok x S2 else (evalOr C (.cons i2 ies)).1 η S2) R h0 fun w v ρ1 S1 H1 R1 e1 r1 h1 => by
    obtain ⟨z, ez, h3⟩ := h1.ofO_bind
    refine ⟨z, tru_of S.hK R1.st r1 ez, ?_⟩
    cases z with
    | false => exact ⟨ρ1, η, S1, R1, h3⟩
    | true => exact h3.now R1.st _ r1
theorem e_and {ies : IEs} {es : List Expr} (h : PE X (.BoolOp .And es pos) (RdE G ex Wx (evalAnd C ies).1)) : PE X (.BoolOp .And es pos) (RE G ex Wx C (.and ies)) := h
theorem e_or {ies : IEs} {es : List Expr} (h : PE X (.BoolOp .Or es pos) (RdE G ex Wx (evalOr C ies).1)) : PE X (.BoolOp .Or es pos) (RE G ex Wx C (.or ies)) := h
/-! ### tests -/
/-- the test is the value's truth -/
def plainT : IE → Bool
  | .not _ => false
  | .and _ => false
  | .or _ => false
  | _ => true
theorem evalP_plain {C : Ctx} : ∀ {e : IE}, plainT e = true → evalP C e = mkV (evalP C e).1 := by
  intro e h
  cases e <;> first | rfl | cases h
theorem t_val (S : Sd G Wx C k X) (h : PE X a (RE G ex Wx C ia)) (hp : plainT ia = true := by rfl) (he : ∀ whole, isTrue a X.env whole = (do let v ← whole; standAt a.pos; holding [v] (PySem.truthy v)) := by intro _; rfl) : PT X a (RT G ex Wx C ia) :=
  (pt_truth h he).of fun σ H Q ⟨ρ, η, St, R, h0⟩ => by
    rw [show (evalP C ia).2 = (mkV (evalP C ia).1).2 from congrArg (·.2) (evalP_plain hp)] at h0
    refine rd1 (f := fun x S1 => ofO (truthy x S1) S1) R h0 fun w v ρ1 S1 H1 R1 e1 r1 h1 => ?_
    obtain ⟨z, ez, h3⟩ := h1.ofO
    exact ⟨z, tru_of S.hK R1.st r1 ez, h3.now R1.st⟩
theorem t_cmp {o : COp} {op : CmpOp} (S : Sd G Wx C k X) (ha : PE X a (RE G ex Wx C ia)) (hb : PE X b (RE G ex Wx C ib)) (hq : o ≠ .eq ∧ o ≠ .ne := by decide) (hm : behindInMarks op b = false := by with_unfolding_all rfl) (ho : op = o.op := by rfl) :
    PT X (.Compare a [op] [b] pos) (RT G ex Wx C (.cmp o ia ib)) := by
  subst ho
  exact (pt_cmpR (or_cmp (o := o) (G := G) (ex := ex) S.hK (by have := S.un; omega)) ha hb hm).of fun σ H Q ⟨ρ, η, St, R, h0⟩ => by
    replace h0 : Sat G (fun c d H => Wx c d σ H) ρ St H ((((evalP C ia).1 η St).bind fun x S1 => ((evalP C ib).1 η S1).bind fun y S2 => cmpW C o x y S2).bind fun x S1 => ofO (truthy x S1) S1) _ := h0
    rw [Res.bind_assoc] at h0
    refine rd1 R h0 fun w v ρ1 S1 H1 R1 e1 r1 h1 => ?_
    rw [Res.bind_assoc] at h1
    refine rd1 R1 h1 fun w2 v2 ρ2 S2 H2 R2 e2 r2 h2 => ?_
    rw [cmpW_plain hq, Res.bind_assoc] at h2
    obtain ⟨z, ez, h4⟩ := h2.ofO_bind
    exact ⟨ρ2, S2, w, w2, z, R2.st, r1.mono e2.kp e2.pre, r2, ez, z, rfl, h4.now R2.st⟩
theorem t_chain {o o' : COp} {op op' : CmpOp} (S : Sd G Wx C k X) (ha : PE X a (RE G ex Wx C ia)) (hb : PE X b (RE G ex Wx C ib)) (hc : PE X c (RE G ex Wx C ic)) (hm : lastMarks [op, op'] [b, c] = false := by with_unfolding_all rfl) (ho : op = o.op := by rfl) (ho' : op' = o'.op := by rfl) :
    PT X (.Compare a [op, op'] [b, c] pos) (RT G ex Wx C (.chain o o' ia ib ic)) := by
  subst ho ho'
  have hu : X.A.units + 65 < cLine := by have := S.un; omega
  exact (pt_chain (or_cmp (o := o) (G := G) (ex := ex) S.hK hu) (or_cmp (o := o') (G := G) (ex := ex) S.hK hu) ha hb hc hm).of fun σ H Q ⟨ρ, η, St, R, h0⟩ => by
    replace h0 : Sat G (fun c d H => Wx c d σ H) ρ St H ((((evalP C ia).1 η St).bind fun x S1 => ((evalP C ib).1 η S1).bind fun y S2 => (ofO (cmpD o x y S2) S2).bind fun k S3 =>
      if k = true then ((evalP C ic).1 η S3).bind fun z S4 => (ofO (cmpD o' y z S4) S4).bind fun k' S5 => .ok (W.d (.bl k')) S5 else .ok (.d (.bl false)) S3).bind fun x S1 => ofO (truthy x S1) S1) _ := h0
    rw [Res.bind_assoc] at h0
    refine rd1 R h0 fun w v ρ1 S1 H1 R1 e1 r1 h1 => ?_
    rw [Res.bind_assoc] at h1
    refine rd1 R1 h1 fun w2 v2 ρ2 S2 H2 R2 e2 r2 h2 => ?_
    rw [Res.bind_assoc] at h2
    obtain ⟨z, ez, h4⟩ := h2.ofO_bind
    refine ⟨ρ2, S2, w, w2, z, R2.st, r1.mono e2.kp e2.pre, r2, ez, z, rfl, ?_⟩
    cases z with
    | false => exact ⟨false, rfl, h4.now R2.st⟩
    | true =>
      simp only [if_true] at h4 ⊢
      rw [Res.bind_assoc] at h4
      refine rd1 R2 h4 fun w3 v3 ρ3 S3 H3 R3 e3 r3 h5 => ?_
      rw [Res.bind_assoc] at h5
      obtain ⟨z', ez', h6⟩ := h5.ofO_bind
      exact ⟨ρ3, S3, w2, w3, z', R3.st, r2.mono e3.kp e3.pre, r3, ez', z', rfl, h6.now R3.st⟩
theorem bl_of {β : Type} {w : W} {a b : β} : (match w with | .d .non => a | _ => b) = if (w matches .d .non) then a else b := by
  cases w with
  | d x => cases x <;> rfl
  | _ => rfl
theorem t_isn {kk} (ha : PE X a (RE G ex Wx C ia)) : PT X (.Compare a [.Is] [.Constant .none kk p] pos) (RT G ex Wx C (.isn false ia)) :=
  (pt_cmpR op_isN ha (pe_non (X := X) (j := kk) (pos := p)) rfl).of fun σ H Q ⟨ρ, η, St, R, h0⟩ => by
    replace h0 : Sat G (fun c d H => Wx c d σ H) ρ St H ((((evalP C ia).1 η St).bind fun x S1 => match x with
      | .d .non => .ok (W.d (.bl (!false))) S1
      | _ => .ok (.d (.bl false)) S1).bind fun x S1 => ofO (truthy x S1) S1) _ := h0
    rw [Res.bind_assoc] at h0
    refine rd1 R h0 fun w v ρ1 S1 H1 R1 e1 r1 h1 => ⟨rfl, ?_⟩
    cases r1 with
    | d r1 => cases r1 <;> (simp only [reduceCtorEq, decide_false, decide_true]; exact ⟨_, rfl, h1.now R1.st⟩)
    | _ => simp only [reduceCtorEq, decide_false]; exact ⟨_, rfl, h1.now R1.st⟩
theorem t_isnt {kk} (ha : PE X a (RE G ex Wx C ia)) : PT X (.Compare a [.IsNot] [.Constant .none kk p] pos) (RT G ex Wx C (.isn true ia)) :=
  (pt_cmpR op_notN ha (pe_non (X := X) (j := kk) (pos := p)) rfl).of fun σ H Q ⟨ρ, η, St, R, h0⟩ => by
    replace h0 : Sat G (fun c d H => Wx c d σ H) ρ St H ((((evalP C ia).1 η St).bind fun x S1 => match x with
      | .d .non => .ok (W.d (.bl (!true))) S1
      | _ => .ok (.d (.bl true)) S1).bind fun x S1 => ofO (truthy x S1) S1) _ := h0
    rw [Res.bind_assoc] at h0
    refine rd1 R h0 fun w v ρ1 S1 H1 R1 e1 r1 h1 => ⟨rfl, ?_⟩
    cases r1 with
    | d r1 => cases r1 <;> (simp only [reduceCtorEq, decide_false, decide_true]; exact ⟨_, rfl, h1.now R1.st⟩)
    | _ => simp only [reduceCtorEq, decide_false]; exact ⟨_, rfl, h1.now R1.st⟩
theorem t_not (ha : PT X a (RT G ex Wx C ia)) : PT X (.UnaryOp .Not a pos) (RT G ex Wx C (.not ia)) :=
  (pt_not ha).of fun σ H Q ⟨ρ, η, St, R, h0⟩ => rd1t (f := fun b S1 => .ok (!b) S1) R h0 fun z ρ1 S1 H1 R1 e1 h1 => h1.now R1.st
theorem w_one (h : PT X a (RT G ex Wx C ia)) : PW X (.BoolOp .And [a] pos) (RdT G ex Wx (evalAnd C (.cons ia .nil)).2) := pw_and1 h
theorem w_oneO (h : PT X a (RT G ex Wx C ia)) : PW X (.BoolOp .Or [a] pos) (RdT G ex Wx (evalOr C (.cons ia .nil)).2) := pw_or1 h
theorem _root_.L2.PW.of {X : Cx} {e : Expr} {t t' : TT} (h : PW X e t) (k : ∀ σ H Q, t' σ H Q → t σ H Q) : PW X e t' := ⟨fun whole pins s σ H Q I q => h.run whole pins s σ H Q I (k σ H Q q)⟩
theorem w_and {i2 : IE} {ies : IEs} {rest : List Expr} (ha : PT X a (RT G ex Wx C ia)) (hb : PW X (.BoolOp .And (b :: rest) pos) (RdT G ex Wx (evalAnd C (.cons i2 ies)).2)) :
    PW X (.BoolOp .And (a :: b :: rest) pos) (RdT G ex Wx (evalAnd C (.cons ia (.cons i2 ies))).2) :=
  (pw_and ha hb).of fun σ H Q ⟨ρ, η, St, R, h0⟩ => rd1t (f := fun k S1 => if k = true then (evalAnd C (.cons i2 ies)).2 η S1 else .ok false S1) R h0 fun z ρ1 S1 H1 R1 e1 h1 => by
    cases z with
    | true => exact ⟨ρ1, η, S1, R1, h1⟩
    | false => exact h1.now R1.st
theorem w_or {i2 : IE} {ies : IEs} {rest : List Expr} (ha : PT X a (RT G ex Wx C ia)) (hb : PW X (.BoolOp .Or (b :: rest) pos) (RdT G ex Wx (evalOr C (.cons i2 ies)).2)) :
    PW X (.BoolOp .Or (a :: b :: rest) pos) (RdT G ex Wx (evalOr C (.cons ia (.cons i2 ies))).2) :=
  (pw_or ha hb).of fun σ H Q ⟨ρ, η, St, R, h0⟩ => rd1t (f := fun k S1 => if k = true then .ok true S1 else (evalOr C (.cons i2 ies)).2 η S1) R h0 fun z ρ1 S1 H1 R1 e1 h1 => by
    cases z with
    | false => exact ⟨ρ1, η, S1, R1, h1⟩
    | true => exact h1.now R1.st
theorem t_and {ies : IEs} {es : List Expr} (h : PW X (.BoolOp .And es pos) (RdT G ex Wx (evalAnd C ies).2)) : PT X (.BoolOp .And es pos) (RT G ex Wx C (.and ies)) := h.pt
theorem t_or {ies : IEs} {es : List Expr} (h : PW X (.BoolOp .Or es pos) (RdT G ex Wx (evalOr C ies).2)) : PT X (.BoolOp .Or es pos) (RT G ex Wx C (.or ies)) := h.pt
/-! ### sub, slices, fields -/
theorem e_ix (S : Sd G Wx C k X) (ha : PE X a (RE G ex Wx C ia)) (hb : PE X b (RE G ex Wx C ib)) (hs : PlainIx b := by intro _ _; rfl) : PE X (.Subscript a b pos) (RE G ex Wx C (.ix ia ib)) :=
  (pe_ix (ix_w (G := G) (ex := ex) S.hK) ha hb hs).of fun σ H Q ⟨ρ, η, St, R, h0⟩ => rd1 (f := fun x S1 => ((evalP C ib).1 η S1).bind fun y S2 => ofO (ixD x y S2) S2) R h0 fun w v ρ1 S1 H1 R1 e1 r1 h1 =>
    rd1 R1 h1 fun w2 v2 ρ2 S2 H2 R2 e2 r2 h2 => by
      obtain ⟨z, ez, h3⟩ := h2.ofO
      exact ⟨ρ2, S2, w, w2, z, R2.st, r1.mono e2.kp e2.pre, r2, ez, fun v' r' => h3.now R2.st v' r'⟩
def RdO (G : Wd) (ex : Ex) (Wx : L2.WX) (m : Env → Store → Res (Option Int)) : TO := fun σ H Q => ∃ ρ η S, RelAll G ex ρ η S σ H ∧
  Sat G (fun c d H => Wx c d σ H) ρ S H (m η S) fun o ρ' S' H' => Q o H'
theorem _root_.L2.PO.of {X : Cx} {e : Option Expr} {t t' : TO} (h : PO X e t) (k : ∀ σ H Q, t' σ H Q → t σ H Q) : PO X e t' := ⟨fun pins s σ H Q I q => h.run pins s σ H Q I (k σ H Q q)⟩
theorem o_none : PO X none (RdO G ex Wx (evalO C .no)) := po_none.of fun σ H Q ⟨ρ, η, S, R, h⟩ => (show Sat _ _ _ _ _ (.ok none S) _ from h).now R.st
theorem o_some (h : PE X a (RE G ex Wx C ia)) : PO X (some a) (RdO G ex Wx (evalO C (.yes ia))) :=
  (po_some h).of fun σ H Q ⟨ρ, η, S, R, h0⟩ => rd1 (f := fun w S1 => match w with
    | .d (.int i) => .ok (some i) S1
    | _ => .stk) R h0 fun w v ρ1 S1 H1 R1 e1 r1 h1 => by
      cases r1 with
      | d r1 =>
        cases r1 with
        | int i => exact ⟨i, rfl, h1.now R1.st⟩
        | _ => exact (show False from h1).elim
      | _ => exact (show False from h1).elim
theorem rd1o {m : Env → Store → Res (Option Int)} {ρ : Rho} {S : Store} {H : Hp} {σ : L2.St} {η : Env} {α : Type} {P : α → Rho → Store → Hp → Prop} {f : Option Int → Store → Res α} {Q : Option Int → Hp → Prop} (R : RelAll G ex ρ η S σ H) (h : Sat G (fun c d H => Wx c d σ H) ρ S H ((m η S).bind f) P)
    (k : ∀ b ρ1 S1 H1, RelAll G ex ρ1 η S1 σ H1 → Ext ρ S H ρ1 S1 H1 → Sat G (fun c d H => Wx c d σ H) ρ1 S1 H1 (f b S1) P → Q b H1) : RdO G ex Wx m σ H Q :=
  ⟨ρ, η, S, R, h.bind.mono fun w ρ1 S1 H1 _ _ ⟨e, R1, h1⟩ => k w ρ1 S1 H1 (R.mono e R1) e h1⟩
theorem e_sl {lo hi : Option Expr} {il ih : IO} (S : Sd G Wx C k X) (ha : PE X a (RE G ex Wx C ia)) (hl : PO X lo (RdO G ex Wx (evalO C il))) (hh : PO X hi (RdO G ex Wx (evalO C ih))) : PE X (.Subscript a (.Slice lo hi none p2) pos) (RE G ex Wx C (.sl ia il ih)) :=
  (pe_slice (sl_w (G := G) (ex := ex) S.hK) ha hl hh).of fun σ H Q ⟨ρ, η, St, R, h0⟩ => rd1 (f := fun x S1 => (evalO C il η S1).bind fun l S2 => (evalO C ih η S2).bind fun h S3 => (ofO (slD x l h S3) S3).bind fun z S4 => .ok (W.d z) S4) R h0 fun w v ρ1 S1 H1 R1 e1 r1 h1 =>
    rd1o R1 h1 fun l ρ2 S2 H2 R2 e2 h2 => rd1o R2 h2 fun u ρ3 S3 H3 R3 e3 h3 => by
      obtain ⟨z, ez, h4⟩ := h3.ofO_bind
      exact ⟨ρ3, S3, w, z, R3.st, (r1.mono e2.kp e2.pre).mono e3.kp e3.pre, ez, fun v' H' e' R' r' => h4.after e' R' v' (.d r')⟩
end
end RI
/-! RI9: calls, methods, fields, isinstance. -/
namespace RI
open PySem PySem.Spec PyProof.Rows L2

/-! ### cells let go -/
section
variable {G : Wd} {ρ ρ1 : Rho} {S S1 : Store} {H H1 : Hp} {n : Nat}
theorem live_take (hn : n ≤ S1.length) {t : List Addr} (l : ρ.l.length = n) : ∀ a, Live ρ (S1.take n) a → Live (ρ.app t) S1 a := by
  rintro a (f | ⟨m, c, h1, h2, h3⟩)
  · exact .inl f
  · rw [List.getElem?_take] at h1
    split at h1
    · exact .inr ⟨m, c, h1, h2, pre_get h3⟩
    · cases h1
theorem RelW.trunc {L L' : Addr → Prop} {w : W} {v : V} {t : List Addr} (k : Kp L H L' H) (h : RelW G none L (ρ.app t) H w v) (hb : wBelow ρ.l.length w = true) : RelW G none L' ρ H w v := by
  cases h with
  | d h => exact .d (h.mono k)
  | loc h =>
    refine .loc ?_
    replace h : (ρ.l ++ t)[_]? = some _ := h
    rwa [List.getElem?_append_left (by simpa [wBelow] using hb)] at h
  | scr h => exact .scr h
  | exn h => cases h
theorem RelWs.trunc {L L' : Addr → Prop} {t : List Addr} (k : Kp L H L' H) : ∀ {ws : List W} {vs : List V}, RelWs G none L (ρ.app t) H ws vs → ws.all (wBelow ρ.l.length) = true → RelWs G none L' ρ H ws vs
  | _, _, .nil, _ => .nil
  | _, _, .cons h hs, hb => by
    rw [List.all_cons, Bool.and_eq_true] at hb
    exact .cons (h.trunc k hb.1) (RelWs.trunc k hs hb.2)
theorem RelFw.trunc {L L' : Addr → Prop} {t : List Addr} (k : Kp L H L' H) : ∀ {ws : List (Nat × W)} {vs : List (Str × V)}, RelFw G L (ρ.app t) H ws vs → (ws.all fun p => wBelow ρ.l.length p.2) = true → RelFw G L' ρ H ws vs
  | _, _, .nil, _ => .nil
  | _, _, .cons h hs, hb => by
    rw [List.all_cons, Bool.and_eq_true] at hb
    exact .cons (h.trunc k hb.1) (RelFw.trunc k hs hb.2)
theorem RelC.trunc {L L' : Addr → Prop} {c : Cell} {a : Addr} {t : List Addr} (k : Kp L H L' H) (h : RelC G L (ρ.app t) H c a) (hb : cellBelow ρ.l.length c = true) : RelC G L' ρ H c a := by
  cases h with
  | lst h hs => exact .lst h (hs.mono k)
  | lsw h hs => exact .lsw h (hs.trunc k hb)
  | dct h hs => exact .dct h (hs.mono k)
  | dtt h hs => exact .dtt h (hs.mono k)
  | ins hx h hs => exact .ins hx h (hs.trunc k hb)
  | dead => exact .dead
theorem kp_take (hn : n ≤ S1.length) {t : List Addr} (l : ρ.l.length = n) : Kp (Live (ρ.app t) S1) H (Live ρ (S1.take n)) H := ⟨fun _ _ h _ => h, fun a h => .inl (live_take hn l a h)⟩
theorem RelS.trunc {t : List Addr} (R : RelS G (ρ.app t) S1 H) (l : ρ.l.length = n) (hn : n ≤ S1.length) (hb : belows n (S1.take n) = true) : RelS G ρ (S1.take n) H := by
  refine ⟨by rw [List.length_take, l]; omega, ?_, fun m c a h1 h2 => ?_, fun a h => R.dom a (List.mem_append_left _ h), fun a f => ⟨(R.res a f).1, fun h => (R.res a f).2 (List.mem_append_left _ h)⟩⟩
  · have := R.nd
    exact (List.nodup_append.mp (show (ρ.l ++ t).Nodup from this)).1
  · have hm := h1
    rw [List.getElem?_take] at h1
    split at h1
    · refine (R.cell m c a h1 (pre_get h2)).trunc (kp_take hn l) ?_
      rw [l]
      exact List.all_eq_true.mp hb c (List.mem_of_getElem? hm)
    · cases h1
theorem Ext.trunc {t : List Addr} (e : Ext ρ S H (ρ.app t) S1 H1) (l : ρ.l.length = n) (hn : n ≤ S1.length) : Ext ρ S H ρ (S1.take n) H1 :=
  ⟨⟨[], by simp⟩, e.keep, fun a h => e.new a (live_take hn l a h), e.dom, e.res⟩
end

section
variable {G : Wd} {Wx : L2.WX} {C : Ctx} {k : Nat} {X : Cx} {pos p p2 apos : Pos} {x : Str} {i : Nat} {a b c e o : Expr} {ia ib ic io : IE} {es : List Expr} {ies : IEs} {t : TA} {fd : FnD}

theorem spF_of {call : List W → Store → Res W} {np : Nat} {ρ : Rho} {S : Store} {H : Hp} {ws : List W} {vs : List V} {Q : VK} {E : XK} (R : RelS G ρ S H) (r : RelWs G none (Live ρ S) ρ H ws vs) (l : ws.length = np)
    (h : Sat G E ρ S H (call ws S) fun w ρ' S' H' => ∀ v, RelW G none (Live ρ' S') ρ' H' w v → Q v H') : spF G call np vs H Q E := ⟨ρ, S, ws, R, r, l, h⟩
theorem e_call (S : Sd G Wx C k X) (hcm : X.calm = true) (hg : Gl X x) (h1 : C.P.fns[i]? = some fd) (hn : fd.name = x) (ht : fd.top = true) (hl : ies.len = fd.np) (ha : PA X (e :: es) (REs G none Wx C ies))
    (hdb : (x == ("__debug__" : Str)) = false := by decide) (he : starEach (e :: es) X.env = (false, eval e X.env) :: starEach es X.env := by rfl) (hpl : (backTo pos (starEach es X.env)).any (·.1) = false := by rfl) :
    PE X (.Call (.Name x p) (e :: es) [] pos) (RE G none Wx C (.call i ies)) := by
  subst hn
  obtain ⟨fdat, ps, hps, F, hb⟩ := (S.fok i fd h1).ex
  refine ⟨fun pins s σ H Q I ⟨ρ, η, St, R, h0⟩ => ?_⟩
  refine wpAny_Call_Name_kw (ld_glob I hg (S.fmg i fd h1 ht) ?_ hdb)
  refine PySem.W.callWith_K (h₀ := X.base) I.ok.mod.kin (S.fok i fd h1).kp (thn (ha.run pos pins s σ H (fun vs H1 => spF G (C.call i) fd.np vs H1 Q (WE Wx σ)) I (rd1n (f := fun ws S1 => C.call i ws S1) R h0 fun ws vs ρ1 S1 H1 R1 e1 r1 l1 h1 => ?_)) fun us s1 ⟨vs, H1, I1, r, q⟩ => ⟨I1.kIn, ?_⟩) he hpl
  · exact spF_of R1.st r1 (by rw [r1.length, l1, hl]) h1
  · exact FnG.call F S.gd ((S.room hcm).mono (Nat.le_succ _)) hb (passAt S.tk σ) I1 r q
/-- a name that holds a def -/
theorem e_callv (S : Sd G Wx C k X) (hcm : X.calm = true) (hN : X.N[i]? = some x) (hv : Vis X.env.scope x) (ha : PA X (e :: es) (REs G none Wx C ies))
    (hdb : (x == ("__debug__" : Str)) = false := by decide) (hcd : (x == ("__classdict__" : Str)) = false := by decide)
    (he : starEach (e :: es) X.env = (false, eval e X.env) :: starEach es X.env := by rfl) (hpl : (backTo pos (starEach es X.env)).any (·.1) = false := by rfl) :
    PE X (.Call (.Name x p) (e :: es) [] pos) (RE G none Wx C (.callv i ies)) := by
  refine ⟨fun pins s σ H Q I ⟨ρ, η, St, R, h0⟩ => ?_⟩
  obtain ⟨w, ew, h1⟩ := Sat.ofO_bind (show Sat _ _ _ _ _ ((ofO (getV η i) St).bind fun w S => match w with
    | .d (.fn f) => match C.P.fns[f]? with
      | some fd => (evalEs C ies η S).bind fun ws S1 => if ws.length = fd.np then C.call f ws S1 else .stk
      | none => .stk
    | _ => .stk) _ from h0)
  obtain ⟨v, e2, r⟩ := R.get ew
  cases r with
  | d r =>
    cases r with
    | fn f =>
      dsimp only at h1
      split at h1
      · next fd hf =>
        refine wpAny_Call_Name_kw (thn ((pe_var (pos := p) hN hv hdb hcd).run pins s σ H (fun v H1 => v = .ref (G.fa f) ∧ H1 = H) I ⟨.ref (G.fa f), e2, rfl, rfl⟩) fun u s1 ⟨v, H1, I1, r1, q1⟩ => ?_)
        obtain ⟨rfl, rfl⟩ := q1
        cases r1
        obtain ⟨fdat, ps, hps, F, hb⟩ := (S.fok f fd hf).ex
        refine PySem.W.callWith_K (h₀ := X.base) I.ok.mod.kin (S.fok f fd hf).kp (thn (ha.run pos pins s1 σ _ (fun vs H1 => spF G (C.call f) fd.np vs H1 Q (WE Wx σ)) I1 (rd1s R h1 fun ws vs ρ1 S1 H1 R1 e1 r1 h2 => ?_)) fun us s2 ⟨vs, H2, I2, r, q⟩ => ⟨I2.kIn, ?_⟩) he hpl
        · split at h2
          · next hl => exact spF_of R1.st r1 hl h2
          · exact h2.elim
        · exact FnG.call F S.gd ((S.room hcm).mono (Nat.le_succ _)) hb (passAt S.tk σ) I2 r q
      · exact h1.elim
    | _ => exact (show False from h1).elim
  | _ => exact (show False from h1).elim
/-- the rest is wanted of the same start -/
theorem Sat.bind0 {W' : XK} {α β : Type} {r : Res α} {f : α → Store → Res β} {ρ : Rho} {S : Store} {H : Hp} {Q : β → Rho → Store → Hp → Prop} (h : Sat G W' ρ S H (r.bind f) Q) : Sat G W' ρ S H r fun a ρ1 S1 H1 => Ext ρ S H ρ1 S1 H1 ∧ RelS G ρ1 S1 H1 ∧ Sat G W' ρ S H (f a S1) Q := by
  cases r with
  | ok a S' => exact fun ρ' H' e R => ⟨e, R, h⟩
  | exc c fs S' => exact h
  | stk => exact h
/-! ### a new object -/
theorem run_makeS {pins : List (Addr × Obj)} {CX : CXT} {Cl f : Addr} {fdt : FuncData} {ps : List Str} {sp : Sp} {E : XK} {σ : L2.St} {H : Hp} {s : Shared} {Q : VK} {us : List Value} {vs : List V} (M : Mk X.K Cl f) (F : FnG X.prog X.w X.K X.mg X.base CX k f fdt ps sp) (gd : X.A.guards = some []) (hr : Room (k + 1) X.A) (hb : Binds X.K fdt ps [])
    (hx : PassesAt CX X σ E) (I : Inv X pins σ H s) (r : Vals vs us)
    (h : ∀ x dx, H x = none → H dx = none → dx ≠ x → sp (.ref x :: vs) (upd (upd H dx (.own x)) x (.ins Cl dx [])) (fun v H2 => v = .non ∧ Q (.ref x) H2) E) :
    wpAny (model X.prog X.w) X.A (PySem.call (.ref Cl) us) (EP X pins σ Q) X.xe s := by
  have hq := h (s.heap.objs.size + 1) s.heap.objs.size (I.hok.fresh (Nat.le_succ _)) (I.hok.fresh (Nat.le_refl _)) (Nat.ne_of_lt (Nat.lt_succ_self _))
  have I2 := Inv.made (C := Cl) I
  have r2 : Vals (V.ref (s.heap.objs.size + 1) :: vs) (Value.ref (s.heap.objs.size + 1) :: us) := .cons rfl r
  have hl : (Value.ref (s.heap.objs.size + 1) :: us ++ []).length = ps.length := by
    have e := r2.length
    rw [F.len _ _ _ _ hq] at e
    rw [List.append_nil]
    exact e.symm
  refine wpAny_call (make_map (f := f) I.kIn M.makes M.init (beq_iff_eq.mp M.fn) (codeAny_mono (F.run _ X.stack _ _ ⟨Value.ref (s.heap.objs.size + 1) :: us, []⟩ (Value.ref (s.heap.objs.size + 1) :: us) _ _ E (gd_make gd) (hr.make Cl us [])
    (I2.env0.make Cl us []) (by have := hb _ (Value.ref (s.heap.objs.size + 1) :: us) I2.kIn hl; rwa [List.append_nil] at this) r2 hq) fun r s' hq' => ?_))
  cases r with
  | error e => exact hx pins _ _ e s' I2 hq'
  | ok fl =>
    cases fl with
    | ret u =>
      obtain ⟨v, H', I3, rv, ev, q3⟩ := I2.after hq'
      subst ev
      exact ⟨rv, ⟨V.ref (s.heap.objs.size + 1), H', I3, rfl, q3⟩⟩
    | next => exact False.elim hq'
    | brk => exact False.elim hq'
    | cont => exact False.elim hq'
theorem RelFw.ds_of {L : Addr → Prop} {ρ : Rho} {H : Hp} {fs : List (Nat × W)} {ds : List (Nat × D)} {vs : List (Str × V)} (h : RelFw G L ρ H fs vs) (e : wsD fs = some ds) : RelFs G L H ds vs := h.ds e
theorem e_mk {cd : ClD} {f : Nat} (S : Sd G Wx C k X) (hcm : X.calm = true) (hg : Gl X x) (h1 : C.P.cls[i]? = some cd) (hi : cd.init = some f) (h2 : C.P.fns[f]? = some fd) (hn : cd.name = x) (hl : ies.len + 1 = fd.np) (ha : PA X (e :: es) (REs G none Wx C ies)) (hxc : cd.exc = none := by rfl)
    (hdb : (x == ("__debug__" : Str)) = false := by decide) (he : starEach (e :: es) X.env = (false, eval e X.env) :: starEach es X.env := by rfl) (hpl : (backTo pos (starEach es X.env)).any (·.1) = false := by rfl) :
    PE X (.Call (.Name x p) (e :: es) [] pos) (RE G none Wx C (.mk i ies)) := by
  subst hn
  have hxi : G.exc i = false := by rw [S.hex]; unfold excC; rw [h1]; simp [hxc]
  have M := S.mkf i cd f h1 hi
  obtain ⟨fdat, ps, hps, F, hb⟩ := (S.fok f fd h2).ex
  refine ⟨fun pins s σ H Q I ⟨ρ, η, St, R, h0⟩ => ?_⟩
  refine wpAny_Call_Name_kw (ld_glob I hg (S.cmg i cd h1) ?_ hdb)
  refine PySem.W.callWith_K (h₀ := X.base) I.ok.mod.kin M.kp (thn (ha.run pos pins s σ H (fun vs H1 => ∀ x dx, H1 x = none → H1 dx = none → dx ≠ x → spF G (C.call f) fd.np (.ref x :: vs) (upd (upd H1 dx (.own x)) x (.ins (G.ca i) dx [])) (fun v H2 => v = .non ∧ Q (.ref x) H2) (WE Wx σ)) I
    (rd1n (f := fun ws S1 => mkW C i ws S1) R h0 fun ws vs ρ1 S1 H1 R1 e1 r1 l1 h1' => ?_)) fun us s1 ⟨vs, H1, I1, r, q⟩ => ⟨I1.kIn, ?_⟩) he hpl
  · intro x dx hx hdx hne
    have Rd : RelS G ρ1 S1 (upd H1 dx (.own x)) := R1.st.newObj hdx
    have hx' : upd H1 dx (.own x) x = none := by rw [upd_ne (Ne.symm hne)]; exact hx
    have Rc : RelS G (ρ1.app [x]) (S1 ++ [.ins i []]) (upd (upd H1 dx (.own x)) x (.ins (G.ca i) dx [])) := Rd.newCell hx' (.ins hxi (upd_same ..) .nil)
    have ec : Ext ρ1 S1 H1 (ρ1.app [x]) (S1 ++ [.ins i []]) (upd (upd H1 dx (.own x)) x (.ins (G.ca i) dx [])) := (Ext.newObj hdx).trans (Ext.newCell Rd hx')
    unfold mkW at h1'
    rw [h1] at h1'
    dsimp only at h1'
    rw [hi] at h1'
    dsimp only at h1'
    refine spF_of Rc (.cons (.loc (by rw [← R1.st.len]; exact app_get _ _)) (r1.mono ec.kp ec.pre)) (by rw [List.length_cons, r1.length, l1, hl]) ((h1'.bind0.from ec).mono fun w ρ2 S2 H2 e2 _ ⟨_, R2, h3⟩ v r2 => ?_)
    cases r2 with
    | d r2 =>
      cases r2 with
      | non =>
        refine ⟨rfl, ?_⟩
        dsimp only at h3
        split at h3
        · split at h3
          · next c' fs hc =>
            split at h3
            · next ds hds =>
              split at h3
              · next hcond =>
                obtain ⟨rfl, hbel, hlt⟩ := hcond
                obtain ⟨t, et⟩ := e2.pre
                rw [Rho.app_app] at et
                have ln : ρ1.l.length = S1.length := R1.st.len
                have Rt : RelS G ρ1 (S2.take S1.length) H2 := (et ▸ R2).trunc ln (Nat.le_of_lt hlt) hbel
                have e3 : Ext ρ1 S1 H1 ρ1 (S2.take S1.length) H2 := (et ▸ (ec.trans e2)).trunc ln (Nat.le_of_lt hlt)
                have ha : ρ2.l[S1.length]? = some x := by
                  rw [et, ← ln]
                  show (ρ1.l ++ ([x] ++ t))[ρ1.l.length]? = some x
                  rw [List.getElem?_append_right (Nat.le_refl _)]
                  simp
                have hcell := R2.cell S1.length _ x hc ha
                cases hcell with
                | ins hxx hH hfs =>
                  have kp : Kp (Live ρ2 S2) H2 (Live ρ1 (S2.take S1.length)) H2 := by
                    rw [et]
                    exact kp_take (Nat.le_of_lt hlt) ln
                  have nl : ¬ Live ρ1 (S2.take S1.length) x := by
                    rintro (f0 | ⟨m, c, g1, g2, g3⟩)
                    · exact absurd hx (R1.st.res x f0).1
                    · exact (R1.st.notin hx) (List.mem_of_getElem? g3)
                  exact h3 ρ1 H2 e3 Rt _ (.d (.obj hxx hH nl ((hfs.ds hds).mono kp)))
              · exact h3.elim
            · exact h3.elim
          · exact h3.elim
        · exact h3 ρ2 H2 (ec.trans e2) R2 _ (.loc (by
            obtain ⟨t, et⟩ := e2.pre
            rw [et, ← R1.st.len]
            exact pre_get (app_get _ _)))
      | _ => exact h3.elim
    | _ => exact h3.elim
  · exact run_makeS M F S.gd (S.room hcm) hb (passAt S.tk σ) I1 r q
end
end RI
/-! RI10: built-ins, methods, fields, isinstance, == of objects. -/
namespace RI
open PySem PySem.Spec PyProof.Rows L2
section
variable {G : Wd} {ex : Ex} {Wx : L2.WX} {C : Ctx} {k : Nat} {X : Cx} {pos p p2 apos : Pos} {x : Str} {i : Nat} {a b c e o : Expr} {ia ib ic io ie : IE} {es : List Expr} {ies : IEs} {t : TA} {fd : FnD}

theorem rbi_of {bi : BI} {t : TA} {T : Value} {σ : L2.St} {H : Hp} {Q : VK} (h : RE G ex Wx C (.bi bi ies) σ H Q) : tCB (rBi G ex bi) (REs G ex Wx C ies) σ H Q := by
  obtain ⟨ρ, η, St, R, h0⟩ := h
  refine rd1s (f := fun ws S1 => (ofO (biD bi ws S1) S1).bind fun x S2 => .ok (W.d x) S2) R h0 fun ws vs ρ1 S1 H1 R1 e1 r1 h1 => ?_
  obtain ⟨z, ez, h3⟩ := h1.ofO_bind
  exact ⟨ρ1, S1, ws, z, R1.st, r1, ez, fun v' H' e' R' r' => h3.after e' R' v' (.d r')⟩
theorem e_biB {bi : BI} {id : String} (S : Sd G Wx C k X) (hcm : X.calm = true) (hg : Gl X x) (hb : bi.fn = .builtin id := by rfl) (hv : bootBuiltins x = some (.builtin id) := by rfl) (hm : x ∈ bltNames := by decide) (ha : PA X (e :: es) (REs G ex Wx C ies)) (hn : x ≠ "__name__" := by decide) (hdb : (x == ("__debug__" : Str)) = false := by decide)
    (he : starEach (e :: es) X.env = (false, eval e X.env) :: starEach es X.env := by rfl) (hpl : (backTo pos (starEach es X.env)).any (·.1) = false := by rfl) : PE X (.Call (.Name x p) (e :: es) [] pos) (RE G ex Wx C (.bi bi ies)) :=
  (pe_callB (hb ▸ cr_bi (G := G) (ex := ex) S.hK hcm bi) hg (S.bmg x hm) hv ha hn hdb he hpl).of fun σ H Q h => rbi_of (t := fun _ _ _ => True) (T := .none) h
theorem e_biT {bi : BI} {T : String} (S : Sd G Wx C k X) (hcm : X.calm = true) (hg : Gl X x) (hb : bi.fn = .type T := by rfl) (hv : bootBuiltins x = some (.type T) := by rfl) (hm : x ∈ bltNames := by decide) (ha : PA X (e :: es) (REs G ex Wx C ies)) (hn : x ≠ "__name__" := by decide) (hdb : (x == ("__debug__" : Str)) = false := by decide)
    (he : starEach (e :: es) X.env = (false, eval e X.env) :: starEach es X.env := by rfl) (hpl : (backTo pos (starEach es X.env)).any (·.1) = false := by rfl) : PE X (.Call (.Name x p) (e :: es) [] pos) (RE G ex Wx C (.bi bi ies)) :=
  (pe_callTy (hb ▸ cr_bi (G := G) (ex := ex) S.hK hcm bi) hg (S.bmg x hm) hv ha hn hdb he hpl).of fun σ H Q h => rbi_of (t := fun _ _ _ => True) (T := .none) h
/-! ### methods of built-in types -/
theorem recv_str {m : BM} {ρ : Rho} {S : Store} {H : Hp} {w : W} {v : V} {K : PySem.W.Frag} (hm : m = .join ∨ m = .split) (r : RelW G ex (Live ρ S) ρ H w v) (h : recvOk m w S = true) : tyV K "str" v H := by
  have : ∃ s, w = .d (.str s) := by
    rcases hm with rfl | rfl <;>
    · unfold recvOk at h
      cases w with
      | d x => cases x with
        | str s => exact ⟨s, rfl⟩
        | _ => cases h
      | _ => cases h
  obtain ⟨s, rfl⟩ := this
  cases r with
  | d r => cases r; rfl
theorem recv_list {m : BM} {ρ : Rho} {S : Store} {H : Hp} {w : W} {v : V} {K : PySem.W.Frag} (hm : m ≠ .join ∧ m ≠ .split ∧ m ≠ .tcount) (R : RelS G ρ S H) (r : RelW G ex (Live ρ S) ρ H w v) (h : recvOk m w S = true) : tyV K "list" v H := by
  have : ∃ xs, lstOf w S = some xs := by
    unfold recvOk at h
    cases m <;> first | exact absurd rfl hm.1 | exact absurd rfl hm.2.1 | exact absurd rfl hm.2.2 | exact Option.isSome_iff_exists.mp h
  obtain ⟨xs, e⟩ := this
  obtain ⟨a, vs, rfl, ha, _⟩ := r.lstOf R e
  exact .inl ⟨rfl, vs, SqL.of ha⟩
theorem toD_noexc {w : W} {S : Store} {c : Nat} {fs : List (Nat × D)} {S' : Store} (h : toD w S = .exc c fs S') : False := by
  rcases toD_cases w S with ⟨x, S1, e⟩ | e <;> rw [e] at h <;> cases h
theorem bm_noexc {m : BM} {o : W} {ws : List W} {S : Store} {c : Nat} {fs : List (Nat × D)} {S' : Store} (h : bmD m o ws S = .exc c fs S') : False := by
  unfold bmD at h
  split at h
  · split at h
    · unfold Res.bind at h
      split at h
      · dsimp only at h
        split at h
        · split at h <;> cases h
        · cases h
      · next e => exact toD_noexc e
      · cases h
    · cases h
  · split at h
    · split at h <;> cases h
    · cases h
  · split at h
    · split at h
      · split at h <;> cases h
      · cases h
    · cases h
  · split at h
    · split at h <;> cases h
    · cases h
  · split at h
    · split at h <;> cases h
    · cases h
  · split at h <;> cases h
  · split at h
    · split at h <;> cases h
    · cases h
  · split at h <;> cases h
  · cases h
theorem bm_of {m : BM} {T : String} {K : PySem.W.Frag} {σ : L2.St} {H : Hp} {Q : VK} (hT : ∀ (ρ : Rho) S H w v, RelS G ρ S H → RelW G ex (Live ρ S) ρ H w v → recvOk m w S = true → tyV K T v H) (h : RE G ex Wx C (.bm ie m ies) σ H Q) : tBM K T (rBm G ex m) (RE G ex Wx C ie) (REs G ex Wx C ies) σ H Q := by
  obtain ⟨ρ, η, St, R, h0⟩ := h
  refine rd1 (f := fun o S1 => if recvOk m o S1 = true then (evalEs C ies η S1).bind fun ws S2 => bmD m o ws S2 else .stk) R h0 fun w v ρ1 S1 H1 R1 e1 r1 h1 => ?_
  split at h1
  · next hr =>
    refine ⟨hT _ _ _ _ _ R1.st r1 hr, rd1s R1 h1 fun ws vs ρ2 S2 H2 R2 e2 r2 h2 => ?_⟩
    cases hb : bmD m w ws S2 with
    | ok z S3 => exact ⟨ρ2, S2, w, ws, z, S3, R2.st, r1.mono e2.kp e2.pre, r2, hb, fun v' H' e' R' r' => by rw [hb] at h2; exact h2 _ _ e' R' v' r'⟩
    | exc c fs S3 => exact (bm_noexc hb).elim
    | stk => rw [hb] at h2; exact h2.elim
  · exact h1.elim
theorem e_append (S : Sd G Wx C k X) (ho : PE X o (RE G ex Wx C io)) (ha : PA X [e] (REs G ex Wx C ies)) (hbase : attributeBase o "append" X.env (eval o X.env) = eval o X.env := by rfl) (hline : (apos.endLine == pos.line) = true := by rfl)
    (hs : starEach [e] X.env = (false, eval e X.env) :: starEach [] X.env := by rfl) : PE X (.Call (.Attribute o "append" apos) [e] [] pos) (RE G ex Wx C (.bm io .append ies)) :=
  (pe_bm PySem.F.plainAttrs_list PySem.F.slot_list_append PySem.F.type_list_append ((mt_bm (G := G) (ex := ex) S.hK .append).1 rfl) ho ha hbase (by rw [hs]; rfl) hline hs rfl).of fun σ H Q h => bm_of (fun _ _ _ _ _ R r q => recv_list (by decide) R r q) h
theorem e_extend (S : Sd G Wx C k X) (ho : PE X o (RE G ex Wx C io)) (ha : PA X [e] (REs G ex Wx C ies)) (hbase : attributeBase o "extend" X.env (eval o X.env) = eval o X.env := by rfl) (hline : (apos.endLine == pos.line) = true := by rfl)
    (hs : starEach [e] X.env = (false, eval e X.env) :: starEach [] X.env := by rfl) : PE X (.Call (.Attribute o "extend" apos) [e] [] pos) (RE G ex Wx C (.bm io .extend ies)) :=
  (pe_bm PySem.F.plainAttrs_list PySem.F.slot_list_extend PySem.F.type_list_extend ((mt_bm (G := G) (ex := ex) S.hK .extend).2.1 rfl) ho ha hbase (by rw [hs]; rfl) hline hs rfl).of fun σ H Q h => bm_of (fun _ _ _ _ _ R r q => recv_list (by decide) R r q) h
theorem e_pop (S : Sd G Wx C k X) (ho : PE X o (RE G ex Wx C io)) (ha : PA X [e] (REs G ex Wx C ies)) (hbase : attributeBase o "pop" X.env (eval o X.env) = eval o X.env := by rfl) (hline : (apos.endLine == pos.line) = true := by rfl)
    (hs : starEach [e] X.env = (false, eval e X.env) :: starEach [] X.env := by rfl) : PE X (.Call (.Attribute o "pop" apos) [e] [] pos) (RE G ex Wx C (.bm io .pop ies)) :=
  (pe_bm PySem.F.plainAttrs_list PySem.F.slot_list_pop PySem.F.type_list_pop ((mt_bm (G := G) (ex := ex) S.hK .pop).2.2.1 rfl) ho ha hbase (by rw [hs]; rfl) hline hs rfl).of fun σ H Q h => bm_of (fun _ _ _ _ _ R r q => recv_list (by decide) R r q) h
theorem e_join (S : Sd G Wx C k X) (ho : PE X o (RE G ex Wx C io)) (ha : PA X [e] (REs G ex Wx C ies)) (hbase : attributeBase o "join" X.env (eval o X.env) = eval o X.env := by rfl) (hline : (apos.endLine == pos.line) = true := by rfl)
    (hs : starEach [e] X.env = (false, eval e X.env) :: starEach [] X.env := by rfl) : PE X (.Call (.Attribute o "join" apos) [e] [] pos) (RE G ex Wx C (.bm io .join ies)) :=
  (pe_bm PySem.F.plainAttrs_str PySem.F.slot_str_join PySem.F.type_str_join ((mt_bm (G := G) (ex := ex) S.hK .join).2.2.2.1 rfl) ho ha hbase (by rw [hs]; rfl) hline hs rfl).of fun σ H Q h => bm_of (fun _ _ _ _ _ R r q => recv_str (.inl rfl) r q) h
theorem e_split (S : Sd G Wx C k X) (ho : PE X o (RE G ex Wx C io)) (ha : PA X [e] (REs G ex Wx C ies)) (hbase : attributeBase o "split" X.env (eval o X.env) = eval o X.env := by rfl) (hline : (apos.endLine == pos.line) = true := by rfl)
    (hs : starEach [e] X.env = (false, eval e X.env) :: starEach [] X.env := by rfl) : PE X (.Call (.Attribute o "split" apos) [e] [] pos) (RE G ex Wx C (.bm io .split ies)) :=
  (pe_bm PySem.F.plainAttrs_str PySem.F.slot_str_split PySem.F.type_str_split ((mt_bm (G := G) (ex := ex) S.hK .split).2.2.2.2 rfl) ho ha hbase (by rw [hs]; rfl) hline hs rfl).of fun σ H Q h => bm_of (fun _ _ _ _ _ R r q => recv_str (.inr rfl) r q) h
/-! ### fields -/
theorem RelFs.look {L : Addr → Prop} {H : Hp} {f : Nat} (hI : ∀ f g, G.nm f = G.nm g → f = g) : ∀ {fs : List (Nat × D)} {vs : List (Str × V)} {x : D}, RelFs G L H fs vs → lookN f fs = some x → ∃ v, vs.lookup (G.nm f) = some v ∧ RelD G L H x v
  | _, _, _, .nil, h => by cases h
  | _, _, x, .cons (f := g) (v := v) h hs, e => by
    unfold lookN at e
    by_cases q : f = g
    · subst q
      rw [if_pos rfl] at e
      cases e
      exact ⟨v, by simp, h⟩
    · rw [if_neg q] at e
      obtain ⟨u, e1, r1⟩ := RelFs.look hI hs e
      refine ⟨u, ?_, r1⟩
      rw [List.lookup_cons]
      rw [show (G.nm f == G.nm g) = false from by
        rw [beq_eq_false_iff_ne]
        exact fun z => q (hI _ _ z)]
      exact e1
theorem RelFw.look {L : Addr → Prop} {ρ : Rho} {H : Hp} {f : Nat} (hI : ∀ f g, G.nm f = G.nm g → f = g) : ∀ {fs : List (Nat × W)} {vs : List (Str × V)} {x : W}, RelFw G L ρ H fs vs → lookN f fs = some x → ∃ v, vs.lookup (G.nm f) = some v ∧ RelW G none L ρ H x v
  | _, _, _, .nil, h => by cases h
  | _, _, x, .cons (f := g) (v := v) h hs, e => by
    unfold lookN at e
    by_cases q : f = g
    · subst q
      rw [if_pos rfl] at e
      cases e
      exact ⟨v, by simp, h⟩
    · rw [if_neg q] at e
      obtain ⟨u, e1, r1⟩ := RelFw.look hI hs e
      refine ⟨u, ?_, r1⟩
      rw [List.lookup_cons]
      rw [show (G.nm f == G.nm g) = false from by
        rw [beq_eq_false_iff_ne]
        exact fun z => q (hI _ _ z)]
      exact e1
theorem e_fld {f : Nat} {n : Str} (S : Sd G Wx C k X) (hf : C.P.flds.contains f = true) (hn : G.nm f = n) (ho : PE X o (RE G none Wx C io)) (hb : attributeBase o n X.env (eval o X.env) = eval o X.env := by rfl) : PE X (.Attribute o n pos) (RE G none Wx C (.fld io f)) := by
  subst hn
  exact (pe_fld ho hb).of fun σ H Q ⟨ρ, η, St, R, h0⟩ => rd1 (f := fun o S1 => ofO (fldD C.P o f S1) S1) R h0 fun w v ρ1 S1 H1 R1 e1 r1 h1 => by
    obtain ⟨z, ez, h3⟩ := h1.ofO
    have hfm : f ∈ C.P.flds := by simpa using hf
    cases r1 with
    | d r1 =>
      cases r1 with
      | obj _ hH nl hs =>
        unfold fldD at ez
        dsimp only at ez
        split at ez
        · next oc =>
          rw [Option.map_eq_some_iff] at ez
          obtain ⟨d, ed, rfl⟩ := ez
          obtain ⟨u, eu, ru⟩ := hs.look S.nmI ed
          exact ⟨_, _, _, _, u, rfl, hH, (S.clf _ oc).cls, (S.clf _ oc).na f hfm, eu, h3.now R1.st _ (.d ru)⟩
        · cases ez
      | err hx =>
        unfold fldD at ez
        dsimp only at ez
        split at ez
        · next oc => exact (ord_exc oc (by rw [← S.hex]; exact hx)).elim
        · cases ez
      | _ => cases ez
    | loc hl =>
      unfold fldD at ez
      dsimp only at ez
      split at ez
      · next c fs hc =>
        split at ez
        · next oc =>
          have hcell := R1.st.cell _ _ _ hc hl
          cases hcell with
          | ins _ hH hs =>
            obtain ⟨u, eu, ru⟩ := hs.look S.nmI ez
            exact ⟨_, _, _, _, u, rfl, hH, (S.clf _ oc).cls, (S.clf _ oc).na f hfm, eu, h3.now R1.st _ ru⟩
        · cases ez
      · cases ez
    | scr h => cases ez
    | exn h => cases h
/-! ### isinstance -/
/-- an expression that is a class -/
def TyE (G : Wd) (X : Cx) (e : Expr) (t : Ty) : Prop := ∃ v, ClsV v (tyVal G t) ∧ PE X e (tC v)
theorem ty_b {t : Ty} {n : String} (S : Sd G Wx C k X) (hg : Gl X x) (hv : bootBuiltins x = some (.type n) := by rfl) (ht : tyVal G t = .type n := by rfl) (hm : x ∈ bltNames := by decide) (hn : x ≠ "__name__" := by decide) (hd : (x == ("__debug__" : Str)) = false := by decide) : TyE G X (.Name x pos) t :=
  ⟨.ty n, ht ▸ .ty n, pe_bltn hg (S.bmg x hm) hv rfl hn hd⟩
theorem ty_c {cd : ClD} (S : Sd G Wx C k X) (hg : Gl X x) (h1 : C.P.cls[i]? = some cd) (hn : cd.name = x) (hd : (x == ("__debug__" : Str)) = false := by decide) : TyE G X (.Name x pos) (.cls i) := by
  subst hn
  exact ⟨.ref (G.ca i), .own _, pe_glob hg (S.cmg i cd h1) rfl hd⟩
theorem tyx_of (S : Sd G Wx C k X) {ρ : Rho} {St : Store} {H : Hp} {w : W} {v : V} {t : Ty} (R : RelS G ρ St H) (r : RelW G none (Live ρ St) ρ H w v) (e : tyName w St = some t) (ok : tyOk0 C.P t = true) : TyX X.K H v (tyVal G t) := by
  have hins : ∀ {a dx c vs}, H a = some (.ins (G.ca c) dx vs) → ordC C.P c = true → TyX X.K H (.ref a) (.ref (G.ca c)) := fun h oc => .base (.ins h (S.clf _ oc).cls (S.clf _ oc).ha (S.clf _ oc).hn (S.clf _ oc).htk (S.clf _ oc).hm)
  cases r with
  | d r =>
    cases r with
    | non => cases e; exact .base .non
    | bl b => cases e; exact .base (.bl b)
    | int j => cases e; exact .base (.int j)
    | str s => cases e; exact .base (.str _)
    | tup h hs =>
      cases e
      rcases h with ⟨u, h, ob, rfl, _⟩ | ⟨o, its, n, h1, h2, _⟩
      · exact .fTuple h
      · exact .kTuple (o := o) (by rw [S.hK]; exact h1) h2
    | lst h nl hs => cases e; exact .base (.lst h)
    | dic h nl hs => cases e; exact .base (.dK h)
    | obj _ h nl hs => cases e; exact hins h ok
    | err hx => cases e; exact (ord_exc (show ordC C.P _ = true from ok) (by rw [← S.hex]; exact hx)).elim
    | fn f => cases e
  | loc hl =>
    unfold tyName at e
    dsimp only at e
    split at e
    · next hc => cases e; cases R.cell _ _ _ hc hl with | lst h hs => exact .base (.lst h)
    · next hc => cases e; cases R.cell _ _ _ hc hl with | lsw h hs => exact .base (.lst h)
    · next hc => cases e; cases R.cell _ _ _ hc hl with | dct h f => exact .base (.dK h)
    · next hc => cases e; cases R.cell _ _ _ hc hl with | ins _ h hs => exact hins h ok
    · cases e
  | scr h =>
    cases e
    rcases h with ⟨o, h⟩ | ⟨o, its, n, h1, h2, _⟩
    · exact .base (.frz h)
    · exact .kList (o := o) (by rw [S.hK]; exact h1) h2
  | exn h => cases h
theorem isiOk_none {L : Addr → Prop} {P : Prog} {ρ : Rho} {H : Hp} {w : W} {v : V} {t : Ty} (r : RelW G none L ρ H w v) (ok : isiOk P w t = true) : tyOk0 P t = true := by
  cases r with
  | exn h => cases h
  | _ => exact ok
theorem isi_ev {ts : List Ty} {σ : L2.St} {H : Hp} {Q : VK} (S : Sd G Wx C k X) (h : RE G none Wx C (.isi ie ts) σ H Q) (R : V → Hp → Prop)
    (hk : ∀ v H1 t, TyX X.K H1 v (tyVal G t) → tyOk0 C.P t = true → Q (.bl (ts.any fun u => tyIs C.P t u)) H1 → R v H1) : RE G none Wx C ie σ H R := by
  obtain ⟨ρ, η, St, R, h0⟩ := h
  refine rd1 (f := fun x S1 => (ofO (tyName x S1) S1).bind fun t S2 => if isiOk C.P x t = true then .ok (W.d (.bl (ts.any fun u => tyIs C.P t u))) S2 else .stk) R h0 fun w v ρ1 S1 H1 R1 e1 r1 h1 => ?_
  obtain ⟨z, ez, h3⟩ := h1.ofO_bind
  split at h3
  · next ok =>
    have ok := isiOk_none r1 ok
    exact hk v H1 z (tyx_of S R1.st r1 ez ok) ok (h3.now R1.st _ (.d (.bl _)))
  · exact h3.elim
theorem e_isi {t : Ty} (S : Sd G Wx C k X) (hg : Gl X "isinstance") (he : PE X e (RE G none Wx C ie)) (ht : TyE G X c t) (hok : tyOk C.P t = true := by rfl)
    (h1 : starEach [e, c] X.env = (false, eval e X.env) :: starEach [c] X.env := by rfl) (h2 : starEach [c] X.env = (false, eval c X.env) :: starEach [] X.env := by rfl) (hpl : (backTo pos (starEach [c] X.env)).any (·.1) = false := by rfl) :
    PE X (.Call (.Name "isinstance" p) [e, c] [] pos) (RE G none Wx C (.isi ie [t])) := by
  obtain ⟨v, hv, hc⟩ := ht
  refine (pe_callB call_isi hg (S.bmg _ (by decide)) (by rfl) (pa_cons he (pa_cons hc pa_nil h2) h1) (by decide) (by decide) h1 hpl).of fun σ H Q h => ?_
  refine isi_ev S h _ fun x H1 tx hx ok q => ⟨x, v, tyVal G tx, tyVal G t, tyIs C.P tx t, rfl, hv, hx, S.kit _ _ ok hok, ?_⟩
  simpa using q
theorem kit_any (S : Sd G Wx C k X) {t : Ty} (ok : tyOk0 C.P t = true) : ∀ ts : List Ty, ts.all (tyOk C.P) = true → PySem.W.kitAny X.K (tyVal G t) (ts.map (tyVal G)) = some (ts.any fun u => tyIs C.P t u)
  | [], _ => kitAny_nil
  | u :: us, h => by
    rw [List.all_cons, Bool.and_eq_true] at h
    refine kitAny_cons (S.kit t u ok h.1) (fun e => ?_) (fun e => ?_)
    · rw [List.any_cons, e, Bool.false_or]; exact kit_any S ok us h.2
    · rw [List.any_cons, e, Bool.true_or]
/-- several classes -/
inductive TyEs (G : Wd) (X : Cx) : List Expr → List Ty → Prop where
  | nil : TyEs G X [] []
  | cons {e : Expr} {t : Ty} {es : List Expr} {ts : List Ty} (h : TyE G X e t) (hs : TyEs G X es ts) (h1 : starEach (e :: es) X.env = (false, eval e X.env) :: starEach es X.env := by rfl) : TyEs G X (e :: es) (t :: ts)
theorem TyEs.pa {es : List Expr} {ts : List Ty} (h : TyEs G X es ts) : ∃ vs, Paired ClsV vs (ts.map (tyVal G)) ∧ vs.length = ts.length ∧ PA X es (fun _ H Q => Q vs H) := by
  induction h with
  | nil => exact ⟨[], .nil, rfl, pa_nil⟩
  | cons h hs h1 ih =>
    obtain ⟨vs, p, l, q⟩ := ih
    obtain ⟨v, hv, hc⟩ := h
    exact ⟨v :: vs, .cons hv p, by simp [l], (pa_cons hc q h1)⟩
theorem e_isiT {ts : List Ty} {cs : List Expr} {kk} (S : Sd G Wx C k X) (hg : Gl X "isinstance") (he : PE X e (RE G none Wx C ie)) (ht : TyEs G X cs ts) (hok : ts.all (tyOk C.P) = true := by rfl) (hl : ts.length ≤ 100 := by decide)
    (h1 : starEach [e, .Tuple cs kk p2] X.env = (false, eval e X.env) :: starEach [.Tuple cs kk p2] X.env := by rfl) (h2 : starEach [.Tuple cs kk p2] X.env = (false, eval (.Tuple cs kk p2) X.env) :: starEach [] X.env := by rfl) (hpl : (backTo pos (starEach [.Tuple cs kk p2] X.env)).any (·.1) = false := by rfl) :
    PE X (.Call (.Name "isinstance" p) [e, .Tuple cs kk p2] [] pos) (RE G none Wx C (.isi ie ts)) := by
  obtain ⟨vs, pv, l, hc⟩ := ht.pa
  refine (pe_callB call_isiT hg (S.bmg _ (by decide)) (by rfl) (pa_cons he (pa_cons (pe_tup hc) pa_nil h2) h1) (by decide) (by decide) h1 hpl).of fun σ H Q h => ?_
  obtain ⟨ρ, η, St, R, h0⟩ := h
  refine rd1 (f := fun x S1 => (ofO (tyName x S1) S1).bind fun t S2 => if isiOk C.P x t = true then .ok (W.d (.bl (ts.any fun u => tyIs C.P t u))) S2 else .stk) R h0 fun w v ρ1 S1 H1 R1 e1 r1 h1 => ?_
  obtain ⟨z, ez, h3⟩ := h1.ofO_bind
  split at h3
  · next ok =>
    have ok := isiOk_none r1 ok
    refine ⟨by rw [l]; exact Nat.le_trans hl (by decide), fun q hq => ?_⟩
    have Rn := R1.st.newObj (o := .tup vs) hq
    exact ⟨v, q, vs, tyVal G z, ts.map (tyVal G), _, rfl, upd_same .., pv, tyx_of S Rn (r1.mono (Ext.newObj hq).kp ⟨[], by simp⟩) ez ok, kit_any S ok ts hok, h3.after (Ext.newObj hq) Rn _ (.d (.bl _))⟩
  · exact h3.elim
end
end RI
/-! RI11: == and != of objects of the text's own classes. -/
namespace RI
open PySem PySem.Spec PyProof.Rows L2
section
variable {M : Model} {prog : Program} {w : World} {A : Around} {E : Value → Shared → Prop} {s : Shared} {K : PySem.W.Frag} {x y C f L : Addr} {ox : Obj} {od : Option Obj} {h₀ : Heap} {m : Str → Option Value}
open Builtin in
theorem ne_entry {Q : Fin → Shared → Prop} (hu : A.units < cLine) (X : K.In s.heap) (I : PySem.W.InstAt s.heap x ox C od) (hs : PySem.W.findIn K (.ref C) "__eq__" = some (some (.ref f))) (hf : PySem.W.isFn K (.ref f) = true)
    (hcall : wpAny (model prog w) A (PySem.call (.ref f) [.ref x, .ref y]) (fun v s' => ∃ b, v = .bool b ∧ Q (.done (.ret (.bool (!b)))) s') E s) :
    wpAny (model prog w) A (Builtin.«object.__ne__» ⟨[.ref x, .ref y], []⟩) Q E s := by
  unfold Builtin.«object.__ne__»
  repeat (first
    | with_reducible refine wpAny_cRoomFor hu ?_
    | (refine wpAny_bind (m := callSpecialIfBound? (.ref x) (Str.ofString "__eq__") [.ref y])
        (PySem.W.ifBound_K X I hs hf (wpAny_mono hcall (fun r s' hr => by
          obtain ⟨b, rfl, hq⟩ := hr
          repeat (first | exact hq | exact wpAny_pure hq | exact wpAny_truthy_bool hq | (refine wpAny_bind (m := PySem.truthy (.bool _)) (wpAny_truthy_bool ?_)) | wp_step)) fun _ _ e => e)))
    | wp_step)
theorem ifBound_ne {args : List Value} {Q : Option Value → Shared → Prop} (X : K.In s.heap) (I : PySem.W.InstAt s.heap x ox C od) (hs : PySem.W.findIn K (.ref C) "__ne__" = some (some (.builtin "object.__ne__")))
    (h : wpAny M A (PySem.call (.builtin "object.__ne__") (.ref x :: args)) (fun v => Q (some v)) E s) : wpAny M A (callSpecialIfBound? (.ref x) "__ne__" args) Q E s := by
  simp only [callSpecialIfBound?, bindSpecialIfBound?]
  refine wpAny_holding (wpAny_bind (wpAny_bind (wpAny_bind (I.type.here ((PySem.W.looks_findIn X hs).here ?_)))))
  refine wpAny_bind (wpAny_askSetting (wpAny_ite ?_))
  have fin : wpAny M A (PySem.call (.builtin "object.__ne__") ([.ref x] ++ args) >>= fun v => pure (some v)) Q E s := wpAny_bind (wpAny_mono h (fun v s' h' => wpAny_pure h') fun _ _ h' => h')
  split
  · exact wpAny_bind (wpAny_of_eq (F.cmp_object.ne.bind _) (wpAny_pure (by exact fin)))
  · exact wpAny_tryCatch (wpAny_bind (wpAny_of_eq (F.cmp_object.ne.bind _) (wpAny_pure (by exact fin))))
theorem ne_K {Q : Value → Shared → Prop} {oy : Obj} {oyd : Option Obj} (hu : A.units + 1 < cLine) (X : K.In s.heap) (I : PySem.W.InstAt s.heap x ox C od) {C' : Addr} (J : PySem.W.InstAt s.heap y oy C' oyd) (hn : PySem.W.notFirst K C (.ref C') = true) (hm : PySem.W.mroIn K C (.type "object") = some true)
    (hne : PySem.W.findIn K (.ref C) "__ne__" = some (some (.builtin "object.__ne__"))) (hs : PySem.W.findIn K (.ref C) "__eq__" = some (some (.ref f))) (hf : PySem.W.isFn K (.ref f) = true)
    (hcall : wpAny (model prog w) A.in1 (PySem.call (.ref f) [.ref x, .ref y]) (fun v s' => ∃ b, v = .bool b ∧ Q (.bool (!b)) s') E s) : wpAny (model prog w) A (richCompare .NotEq (.ref x) (.ref y)) Q E s := by
  have one : wpAny (model prog w) A (tryCompare (.ref x) "__ne__" (.ref y)) (fun r s' => ∃ v, r = some v ∧ Q v s') E s := by
    unfold tryCompare
    refine wpAny_bind (ifBound_ne X I hne (wpAny_call (codeAny_call_builtin F.cmp_object.ne.plain F.cmpEntry_ne (PySem.W.check_slot F.cmpKind_ne F.cmpSplit_ne (I.type.andThen (PySem.W.looks_mroIn X hm)) (F.cmpArgs_ne _ _)
      (ne_entry (A := A.in1) hu X I hs hf (wpAny_mono hcall (fun v s' hv => ?_) fun _ _ e => e))))))
    obtain ⟨b, rfl, hq⟩ := hv
    first | exact ⟨b, rfl, wpAny_pure ⟨_, rfl, hq⟩⟩ | exact ⟨b, rfl, wpAny_pure (wpAny_pure ⟨_, rfl, hq⟩)⟩ | exact ⟨b, rfl, ⟨_, rfl, hq⟩⟩
  unfold richCompare
  simp only [oneThing_ref]
  rw [cmpInfo_NotEq]
  dsimp only
  refine wpAny_holding (wpAny_bind (wpAny_cRoomFor (Nat.lt_of_succ_lt hu) ?_))
  refine wpAny_bind (I.type.here (wpAny_bind (J.type.here ?_)))
  split
  · rename_i q
    have e : PySem.W.subIn K (.ref C') (.ref C) = some false := by
      rcases Bool.or_eq_true_iff.mp hn with e | e
      · rw [beq_iff_eq.mp e] at q; simp at q
      · exact beq_iff_eq.mp e
    refine wpAny_bind ((PySem.W.looks_subIn X e).here ?_)
    simp only [Bool.false_eq_true, if_false]
    refine wpAny_bind (wpAny_mono one (fun r s' z => ?_) fun _ _ e => e)
    obtain ⟨v, rfl, hq⟩ := z
    exact wpAny_pure hq
  · refine wpAny_bind (wpAny_pure ?_)
    simp only [Bool.false_eq_true, if_false]
    refine wpAny_bind (wpAny_mono one (fun r s' z => ?_) fun _ _ e => e)
    obtain ⟨v, rfl, hq⟩ := z
    exact wpAny_pure hq
end
section
variable {G : Wd} {Wx : L2.WX} {C : Ctx} {k : Nat} {X : Cx} {pos p p2 apos : Pos} {x : Str} {i : Nat} {a b c e : Expr} {ia ib : IE} {o : COp}
theorem run_at {A : Around} {fd : FuncData} {f : Addr} {ps : List Str} {sp : Sp} {pins : List (Addr × Obj)} {σ : L2.St} {H : Hp} {s : Shared} {Q : VK} {us : List Value} {vs : List V} {E : Value → Shared → Prop} (F : FnG X.prog X.w X.K X.mg X.base (L2.CX X.prog X.w) k f fd ps sp) (gd : A.guards = some []) (hr : Room k A) (fr : A.frames = X.A.frames) (hb : Binds X.K fd ps [])
    (I : Inv X pins σ H s) (r : Vals vs us) (h : sp vs H Q (fun _ _ _ => False)) : wpAny (model X.prog X.w) A (PySem.call (.ref f) us) (EP X pins σ Q) E s := by
  have hl := F.len _ _ _ _ h
  have e0 : Env0 X.prog X.w X.K X.mg X.base A X.stack s H := by
    have e := I.env0
    exact ⟨by rw [fr]; exact e.frames, e.mod, e.bs, e.bsz, e.funs, e.frf, e.hok, e.bare⟩
  refine wpAny_call (codeAny_mono (F.run A X.stack s H ⟨us, []⟩ us vs _ _ gd hr e0 (by
    have := hb s us I.kIn (by rw [List.append_nil, ← r.length]; exact hl)
    simpa using this) r h) fun r s' hq => ?_)
  cases r with
  | error e =>
    obtain ⟨a, B, H', cls, d, h1⟩ := hq
    exact (h1.2.2.2.2.2.2.2).elim
  | ok fl =>
    cases fl with
    | ret w => exact I.after hq
    | next => exact False.elim hq
    | brk => exact False.elim hq
    | cont => exact False.elim hq
theorem clsOf_ins {ρ : Rho} {S : Store} {H : Hp} {w : W} {v : V} {c : Nat} (R : RelS G ρ S H) (hx : G.exc c = false) (r : RelW G none (Live ρ S) ρ H w v) (e : clsOf w S = some c) : ∃ a dx vs, v = .ref a ∧ H a = some (.ins (G.ca c) dx vs) := by
  cases r with
  | d r =>
    cases r with
    | err h1 =>
      cases e
      rw [hx] at h1
      cases h1
    | obj _ h nl hs => cases e; exact ⟨_, _, _, rfl, h⟩
    | _ => cases e
  | loc hl =>
    unfold clsOf at e
    dsimp only at e
    split at e
    · next hc => cases e; cases R.cell _ _ _ hc hl with | ins _ h hs => exact ⟨_, _, _, rfl, h⟩
    · cases e
  | scr h => cases e
  | exn h => cases h
theorem Sat.quiet {α : Type} {ρ : Rho} {S : Store} {H : Hp} {W1 W2 : XK} {r : Res α} {P : α → Rho → Store → Hp → Prop} (n : ∀ c fs S', r ≠ .exc c fs S') (h : Sat G W1 ρ S H r P) : Sat G W2 ρ S H r P := by
  cases r with
  | ok a S' => exact h
  | exc c fs S' => exact (n c fs S' rfl).elim
  | stk => exact h
theorem Sat.calm_bind {α β : Type} {ρ : Rho} {S : Store} {H : Hp} {W1 W2 : XK} {r : Res α} {f : α → Store → Res β} {P : β → Rho → Store → Hp → Prop} (h : Sat G W1 ρ S H ((noExc r).bind f) P) :
    Sat G W2 ρ S H r fun a ρ1 S1 H1 => Ext ρ S H ρ1 S1 H1 ∧ RelS G ρ1 S1 H1 ∧ Sat G W1 ρ1 S1 H1 (f a S1) P := by
  cases r with
  | ok a S' => exact fun ρ' H' e R => ⟨e, R, Sat.from e h⟩
  | exc c fs S' => exact h.elim
  | stk => exact h
def rEqW (G : Wd) (C : Ctx) (o : COp) : R2 := fun x y H Q => ∃ ρ S a b, RelS G ρ S H ∧ RelW G none (Live ρ S) ρ H a x ∧ RelW G none (Live ρ S) ρ H b y ∧
  Sat G (fun _ _ _ => False) ρ S H (cmpW C o a b S) fun w ρ' S' H' => ∀ v, RelW G none (Live ρ' S') ρ' H' w v → Q v H'
theorem cmpW_noexc {a b : W} {S : Store} : ∀ c fs S', cmpW C o a b S ≠ .exc c fs S' := by
  intro c fs S' h
  have h1 : ∀ (q : Option Bool) (g : Bool → D), ((ofO q S).bind fun k S1 => Res.ok (W.d (g k)) S1) ≠ .exc c fs S' := by
    intro q g; cases q <;> (intro z; cases z)
  have h2 : ∀ (r : Res W) (g : Bool → D), ((noExc r).bind fun w S1 => match w with
      | .d (.bl k) => Res.ok (W.d (g k)) S1
      | _ => .stk) ≠ .exc c fs S' := by
    intro r g
    cases r with
    | ok w S1 =>
      rw [noExc_ok, Res.bind_ok]
      split <;> (intro z; cases z)
    | exc _ _ _ => intro z; cases z
    | stk => intro z; cases z
  cases o with
  | eq =>
    unfold cmpW at h
    dsimp only at h
    split at h
    · exact h2 _ .bl h
    · exact h1 _ .bl h
  | ne =>
    unfold cmpW at h
    dsimp only at h
    split at h
    · exact h2 _ (fun k => .bl (!k)) h
    · exact h1 _ .bl h
  | _ => exact h1 _ .bl h
theorem or_eqP (S : Sd G Wx C k X) (hcm : X.calm = true) {pins : List (Addr × Obj)} {s : Shared} {σ : L2.St} {H : Hp} {x y : V} {v u : Value} {Q : VK} (I : Inv X pins σ H s) (rx : RelV x v) (ry : RelV y u) {ρ : Rho} {St : Store} {wa wb : W} {f : Nat} (R : RelS G ρ St H) (ra : RelW G none (Live ρ St) ρ H wa x) (rb : RelW G none (Live ρ St) ρ H wb y)
    (hq : ownEq C wa St = some f) (hb : (∃ ts, wb = .d (.tup ts)) ∨ wb = .d .non) (h : Sat G (fun _ _ _ => False) ρ St H ((noExc (C.call f [wa, wb] St)).bind fun w S1 => match w with
      | .d (.bl k) => Res.ok (W.d (.bl k)) S1
      | _ => .stk) fun w ρ' S' H' => ∀ v, RelW G none (Live ρ' S') ρ' H' w v → Q v H') : wpAny (model X.prog X.w) X.A (richCompare .Eq v u) (EP X pins σ Q) X.xe s := by
  unfold ownEq at hq
  split at hq
  · next c ec =>
    split at hq
    · next d hd =>
      obtain ⟨EF, fd, hfd, hnp⟩ := S.eqm c d f hd hq
      obtain ⟨a, dx, vs, rfl, ha⟩ := clsOf_ins R (S.ordx EF.ord) ra ec
      obtain ⟨fdat, ps, hps, F, hbd⟩ := (S.fok f fd hfd).ex
      cases rx
      obtain ⟨mA, J, _⟩ := ins_get I.hok ha
      obtain ⟨od, J, _⟩ := J.look
      obtain ⟨m, hF⟩ := I.fr
      have r2 : Vals [V.ref a, y] [Value.ref a, u] := .cons rfl (.cons ry .nil)
      have ht : ∃ t, PySem.W.subIn X.K t (.ref (G.ca c)) = some false ∧ PySem.W.Looks (model X.prog X.w) s.heap (typeOf u) t := by
        rcases hb with ⟨ts, rfl⟩ | rfl
        · have tx := tyx_of S (t := .tuple) R rb rfl rfl
          obtain ⟨Pq, Z, hp, _⟩ := kit_of I ry tx
          exact ⟨_, EF.sT, Z.ty _ _ I.kIn hp⟩
        · have tx := tyx_of S (t := .none) R rb rfl rfl
          obtain ⟨Pq, Z, hp, _⟩ := kit_of I ry tx
          exact ⟨_, EF.sN, Z.ty _ _ I.kIn hp⟩
      obtain ⟨t, hs, hl⟩ := ht
      refine PySem.W.cmp_K (op := .Eq) (tb := t) (S.room hcm).units0 hF I.ok.mod.kin J hl (by simp [PySem.W.notFirst, hs]) EF.eq EF.fn ?_
      refine wpAny_mono (run_at F S.gd ((S.room hcm).mono (Nat.le_succ _)) rfl hbd I r2 (Q := fun v H' => ∃ kb, v = .bl kb ∧ Q (.bl kb) H') ⟨ρ, St, [wa, wb], R, .cons ra (.cons rb .nil), by rw [hnp]; rfl, h.calm_bind.mono fun w ρ1 S1 H1 e1 R1 ⟨_, _, h3⟩ v rv => ?_⟩) (fun r s' z => ?_) (fun _ _ q => q)
      · cases rv with
        | d rv =>
          cases rv with
          | bl kb => exact ⟨kb, rfl, h3.now R1 _ (.d (.bl kb))⟩
          | _ => exact h3.elim
        | _ => exact h3.elim
      · obtain ⟨v, H', I', rv, kb, rfl, q⟩ := z
        cases rv
        exact ⟨.bl kb, H', I', rfl, q⟩
    · cases hq
  · cases hq
theorem or_eqW (S : Sd G Wx C k X) (hcm : X.calm = true) (ho : o = .eq ∨ o = .ne) : OpR X (compareOp o.op) (rEqW G C o) := by
  intro pins s σ H x y v u Q I rx ry ⟨ρ, St, wa, wb, R, ra, rb, h⟩
  cases hq : eqOwn C wa wb St with
  | none =>
    by_cases hp : o = .eq ∧ ∃ f, eqOwnE C wa wb St = some f
    · obtain ⟨rfl, f, hf⟩ := hp
      have h0 := h
      unfold cmpW at h0
      dsimp only at h0
      rw [hf] at h0
      dsimp only at h0
      have h2 : ownEq C wa St = some f ∧ ((∃ ts, wb = .d (.tup ts)) ∨ wb = .d .non) := by
        unfold eqOwnE at hf
        rw [hq] at hf
        dsimp only at hf
        split at hf
        · exact ⟨hf, .inl ⟨_, rfl⟩⟩
        · exact ⟨hf, .inr rfl⟩
        · cases hf
      exact or_eqP S hcm I rx ry R ra rb h2.1 h2.2 h0
    have e : cmpW C o wa wb St = (ofO (cmpD o wa wb St) St).bind fun k S1 => .ok (.d (.bl k)) S1 := by
      rcases ho with rfl | rfl
      · have hn : eqOwnE C wa wb St = none := by
          cases h3 : eqOwnE C wa wb St with
          | none => rfl
          | some f => exact absurd ⟨rfl, f, h3⟩ hp
        unfold cmpW; dsimp only; rw [hn]
      · unfold cmpW; dsimp only; rw [hq]
    rw [e] at h
    obtain ⟨z, ez, h4⟩ := h.ofO_bind
    exact or_cmp (o := o) (G := G) (ex := none) S.hK (by have := S.un; omega) pins s σ H x y v u Q I rx ry ⟨ρ, St, wa, wb, z, R, ra, rb, ez, h4.now R _ (.d (.bl z))⟩
  | some f =>
    have hq' := hq
    have hqE : eqOwnE C wa wb St = some f := by unfold eqOwnE; rw [hq]
    unfold eqOwn at hq
    split at hq
    · next c c' ec ec' =>
      split at hq
      · next e =>
        split at hq
        · next d hd =>
          obtain ⟨EF, fd, hfd, hnp⟩ := S.eqm c d f hd hq
          obtain ⟨a, dx, vs, rfl, ha⟩ := clsOf_ins R (S.ordx EF.ord) ra ec
          obtain ⟨b, dy, us, rfl, hb⟩ := clsOf_ins R (S.ordx e.2) rb ec'
          replace e := e.1
          have hnf : PySem.W.notFirst X.K (G.ca c) (.ref (G.ca c')) = true := by
            by_cases hcc : c = c'
            · subst hcc; simp [PySem.W.notFirst]
            · have := EF.sC c' (e.resolve_left hcc) hcc
              simp [PySem.W.notFirst, this]
          obtain ⟨fdat, ps, hps, F, hbd⟩ := (S.fok f fd hfd).ex
          cases rx
          cases ry
          obtain ⟨mA, J, _⟩ := ins_get I.hok ha
          obtain ⟨mB, J', _⟩ := ins_get I.hok hb
          obtain ⟨od, J, _⟩ := J.look
          obtain ⟨od', J', _⟩ := J'.look
          obtain ⟨m, hF⟩ := I.fr
          have r2 : Vals [V.ref a, V.ref b] [Value.ref a, Value.ref b] := .cons rfl (.cons rfl .nil)
          rcases ho with rfl | rfl
          · unfold cmpW at h
            dsimp only at h
            rw [hqE] at h
            dsimp only at h
            show wpAny (model X.prog X.w) X.A (richCompare .Eq (.ref a) (.ref b)) _ X.xe s
            refine PySem.W.cmp_K (op := .Eq) (tb := .ref (G.ca c')) (S.room hcm).units0 hF I.ok.mod.kin J J'.type hnf EF.eq EF.fn ?_
            refine wpAny_mono (run_at F S.gd ((S.room hcm).mono (Nat.le_succ _)) rfl hbd I r2 (Q := fun v H' => ∃ kb, v = .bl kb ∧ Q (.bl kb) H') ⟨ρ, St, [wa, wb], R, .cons ra (.cons rb .nil), by rw [hnp]; rfl, h.calm_bind.mono fun w ρ1 S1 H1 e1 R1 ⟨_, _, h3⟩ v rv => ?_⟩) (fun r s' z => ?_) (fun _ _ q => q)
            · cases rv with
              | d rv =>
                cases rv with
                | bl kb => exact ⟨kb, rfl, h3.now R1 _ (.d (.bl kb))⟩
                | _ => exact h3.elim
              | _ => exact h3.elim
            · obtain ⟨v, H', I', rv, kb, rfl, q⟩ := z
              cases rv
              exact ⟨.bl kb, H', I', rfl, q⟩
          · unfold cmpW at h
            dsimp only at h
            rw [hq'] at h
            dsimp only at h
            show wpAny (model X.prog X.w) X.A (richCompare .NotEq (.ref a) (.ref b)) _ X.xe s
            refine ne_K (by have := S.un; omega) I.kIn J J' hnf EF.hm EF.ne EF.eq EF.fn ?_
            refine wpAny_mono (run_at F (gd_in1 S.gd) (S.room hcm).in1 rfl hbd I r2 (Q := fun v H' => ∃ kb, v = .bl kb ∧ Q (.bl (!kb)) H') ⟨ρ, St, [wa, wb], R, .cons ra (.cons rb .nil), by rw [hnp]; rfl, h.calm_bind.mono fun w ρ1 S1 H1 e1 R1 ⟨_, _, h3⟩ v rv => ?_⟩) (fun r s' z => ?_) (fun _ _ q => q)
            · cases rv with
              | d rv =>
                cases rv with
                | bl kb => exact ⟨kb, rfl, h3.now R1 _ (.d (.bl (!kb)))⟩
                | _ => exact h3.elim
              | _ => exact h3.elim
            · obtain ⟨v, H', I', rv, kb, rfl, q⟩ := z
              cases rv
              exact ⟨kb, rfl, .bl (!kb), H', I', rfl, q⟩
        · cases hq
      · cases hq
    · cases hq
theorem cmpW_bl {a b w : W} {S S' : Store} (h : cmpW C o a b S = .ok w S') : ∃ k, w = .d (.bl k) := by
  have h1 : ∀ (q : Option Bool), ((ofO q S).bind fun k S1 => Res.ok (W.d (.bl k)) S1) = .ok w S' → ∃ k, w = .d (.bl k) := by
    intro q z
    cases q with
    | none => cases z
    | some k => cases z; exact ⟨k, rfl⟩
  have h2 : ∀ (r : Res W) (g : Bool → Bool), ((noExc r).bind fun w S1 => match w with
      | .d (.bl k) => Res.ok (W.d (.bl (g k))) S1
      | _ => .stk) = .ok w S' → ∃ k, w = .d (.bl k) := by
    intro r g z
    cases r with
    | ok w S1 =>
      rw [noExc_ok, Res.bind_ok] at z
      split at z
      · cases z; exact ⟨_, rfl⟩
      · cases z
    | exc _ _ _ => cases z
    | stk => cases z
  cases o with
  | eq =>
    unfold cmpW at h
    dsimp only at h
    split at h
    · exact h2 _ id h
    · exact h1 _ h
  | ne =>
    unfold cmpW at h
    dsimp only at h
    split at h
    · exact h2 _ (fun k => !k) h
    · exact h1 _ h
  | _ => exact h1 _ h
theorem Sat.and {α : Type} {ρ : Rho} {S : Store} {H : Hp} {W1 : XK} {r : Res α} {P : α → Rho → Store → Hp → Prop} {φ : α → Prop} (n : ∀ a S', r = .ok a S' → φ a) (h : Sat G W1 ρ S H r P) : Sat G W1 ρ S H r fun a ρ' S' H' => φ a ∧ P a ρ' S' H' := by
  cases r with
  | ok a S' => exact fun ρ' H' e R => ⟨n a S' rfl, h ρ' H' e R⟩
  | exc c fs S' => exact h
  | stk => exact h
/-- == and !=, of objects too -/
theorem e_eq {op : CmpOp} (S : Sd G Wx C k X) (hcm : X.calm = true) (ha : PE X a (RE G none Wx C ia)) (hb : PE X b (RE G none Wx C ib)) (hq : o = .eq ∨ o = .ne := by decide) (hm : behindInMarks op b = false := by with_unfolding_all rfl) (ho : op = o.op := by rfl) :
    PE X (.Compare a [op] [b] pos) (RE G none Wx C (.cmp o ia ib)) := by
  subst ho
  exact (pe_cmpR (or_eqW S hcm hq) ha hb hm).of fun σ H Q ⟨ρ, η, St, R, h0⟩ => rd1 (f := fun x S1 => ((evalP C ib).1 η S1).bind fun y S2 => cmpW C o x y S2) R h0 fun w v ρ1 S1 H1 R1 e1 r1 h1 =>
    rd1 R1 h1 fun w2 v2 ρ2 S2 H2 R2 e2 r2 h2 => ⟨ρ2, S2, w, w2, R2.st, r1.mono e2.kp e2.pre, r2, h2.quiet cmpW_noexc⟩
theorem t_eq {op : CmpOp} (S : Sd G Wx C k X) (hcm : X.calm = true) (ha : PE X a (RE G none Wx C ia)) (hb : PE X b (RE G none Wx C ib)) (hq : o = .eq ∨ o = .ne := by decide) (hm : behindInMarks op b = false := by with_unfolding_all rfl) (ho : op = o.op := by rfl) :
    PT X (.Compare a [op] [b] pos) (RT G none Wx C (.cmp o ia ib)) := by
  subst ho
  exact (pt_cmpR (or_eqW S hcm hq) ha hb hm).of fun σ H Q ⟨ρ, η, St, R, h0⟩ => by
    replace h0 : Sat G (fun c d H => Wx c d σ H) ρ St H ((((evalP C ia).1 η St).bind fun x S1 => ((evalP C ib).1 η S1).bind fun y S2 => cmpW C o x y S2).bind fun x S1 => ofO (truthy x S1) S1) _ := h0
    rw [Res.bind_assoc] at h0
    refine rd1 R h0 fun w v ρ1 S1 H1 R1 e1 r1 h1 => ?_
    rw [Res.bind_assoc] at h1
    refine rd1 R1 h1 fun w2 v2 ρ2 S2 H2 R2 e2 r2 h2 => ⟨ρ2, S2, w, w2, R2.st, r1.mono e2.kp e2.pre, r2, ?_⟩
    refine ((h2.bind.quiet (W2 := fun _ _ _ => False) cmpW_noexc).and (φ := fun w => ∃ k, w = .d (.bl k)) fun w S' e => cmpW_bl e).mono fun w3 ρ3 S3 H3 e3 R3 ⟨⟨kb, hk⟩, _, _, h3⟩ v r3 => ?_
    subst hk
    obtain ⟨z, ez, h4⟩ := h3.ofO
    cases ez
    cases r3 with | d r3 => cases r3 with | bl _ => exact ⟨kb, rfl, h4.now R3⟩
end
end RI
/-! RI12: targets, iterators. -/
namespace RI
open PySem PySem.Spec PyProof.Rows L2
abbrev noX : XK := fun _ _ _ => False
/-- σ' is σ but for those names -/
def SameBut (vs : List Nat) (σ σ' : L2.St) : Prop := ∀ own : List Nat, (∀ v ∈ vs, v ∈ own) → wipe σ' own = wipe σ own
mutual
def ITs.names : ITs → List Nat
  | .nil => []
  | .cons t ts => IT.names t ++ ITs.names ts
def IT.names : IT → List Nat
  | .nm i => [i]
  | .tup ts => ITs.names ts
  | _ => []
end
def RdG (G : Wd) (ns : List Nat) (m : W → Env → Store → Res Env) : TG := fun v σ H Q => ∃ ρ η S w, RelAll G none ρ η S σ H ∧ RelW G none (Live ρ S) ρ H w v ∧
  Sat G noX ρ S H (noExc (m w η S)) fun η' ρ' S' H' => ∀ σ', RelAll G none ρ' η' S' σ' H' → SameBut ns σ σ' → Q σ' H'
def RdGs (G : Wd) (ns : List Nat) (m : List D → Env → Store → Res Env) : TGs := fun vs σ H Q => ∃ ρ η S xs, RelAll G none ρ η S σ H ∧ RelDs G (Live ρ S) H xs vs ∧
  Sat G noX ρ S H (noExc (m xs η S)) fun η' ρ' S' H' => ∀ σ', RelAll G none ρ' η' S' σ' H' → SameBut ns σ σ' → Q σ' H'
theorem noExc_bind {α β : Type} (r : Res α) (f : α → Store → Res β) : noExc (r.bind f) = (noExc r).bind fun a S => noExc (f a S) := by cases r <;> rfl
theorem _root_.L2.PG.of {X : Cx} {e : Expr} {t t' : TG} (h : PG X e t) (k : ∀ v σ H Q, t' v σ H Q → t v σ H Q) : PG X e t' := ⟨fun pins s σ H v u Q I r q => h.run pins s σ H v u Q I r (k v σ H Q q)⟩
theorem _root_.L2.PGs.of {X : Cx} {e : List Expr} {t t' : TGs} (h : PGs X e t) (k : ∀ v σ H Q, t' v σ H Q → t v σ H Q) : PGs X e t' := ⟨fun pins s σ H v u Q I r q => h.run pins s σ H v u Q I r (k v σ H Q q)⟩
theorem _root_.L2.PI.of {X : Cx} {tg e : Expr} {t t' : TI} (h : PI X tg e t) (k : ∀ σ H Q, t' σ H Q → t σ H Q) : PI X tg e t' := ⟨fun pins s σ H Q I q => h.run pins s σ H Q I (k σ H Q q)⟩
section
variable {G : Wd} {Wx : L2.WX} {C : Ctx} {k : Nat} {X : Cx} {pos p p2 apos : Pos} {x : Str} {i : Nat} {a b c e o : Expr} {ia ib ie io ii : IE}
/-- no error comes: any wish about errors will do -/
theorem Sat.nx {α : Type} {ρ : Rho} {S : Store} {H : Hp} {W1 W2 : XK} {r : Res α} {P : α → Rho → Store → Hp → Prop} (h : Sat G W1 ρ S H (noExc r) P) : Sat G W2 ρ S H r P := by
  cases r with
  | ok a S' => exact h
  | exc c fs S' => exact h.elim
  | stk => exact h
theorem Sat.nx' {α : Type} {ρ : Rho} {S : Store} {H : Hp} {W1 W2 : XK} {r : Res α} {P : α → Rho → Store → Hp → Prop} (h : Sat G W1 ρ S H (noExc r) P) : Sat G W2 ρ S H (noExc r) P := by
  cases r with
  | ok a S' => exact h
  | exc c fs S' => exact h
  | stk => exact h
theorem Sat.bindN {α β : Type} {ρ : Rho} {S : Store} {H : Hp} {W1 W2 : XK} {r : Res α} {f : α → Store → Res β} {P : β → Rho → Store → Hp → Prop} (h : Sat G W1 ρ S H ((noExc r).bind f) P) :
    Sat G W2 ρ S H (noExc r) fun a ρ1 S1 H1 => Ext ρ S H ρ1 S1 H1 ∧ RelS G ρ1 S1 H1 ∧ Sat G W1 ρ1 S1 H1 (f a S1) P := by
  cases r with
  | ok a S' => exact fun ρ' H' e R => ⟨e, R, Sat.from e h⟩
  | exc c fs S' => exact h
  | stk => exact h
theorem wipe_get (σ : L2.St) (j : Nat) : ∀ vs : List Nat, (wipe σ vs)[j]? = if j ∈ vs then σ[j]?.map (fun _ => none) else σ[j]?
  | [] => by simp [wipe]
  | v :: vs => by
    show ((wipe σ vs).set v none)[j]? = _
    by_cases e : j = v
    · subst e
      rw [List.getElem?_set]
      have := wipe_length σ vs
      simp only [if_true, List.mem_cons, true_or]
      rw [this]
      by_cases h : j < σ.length
      · rw [if_pos h, List.getElem?_eq_getElem h] <;> rfl
      · rw [if_neg h, List.getElem?_eq_none (by omega)] <;> rfl
    · rw [List.getElem?_set_ne (Ne.symm e), wipe_get σ j vs]
      simp [e]
theorem same_set (i : Nat) (v : Option V) {σ : L2.St} : SameBut [i] σ (σ.set i v) := by
  intro own h
  have hi := h i (List.mem_singleton.mpr rfl)
  apply List.ext_getElem?
  intro j
  rw [wipe_get, wipe_get]
  by_cases e : j = i
  · subst e
    rw [if_pos hi, if_pos hi, List.getElem?_set]
    simp only [if_true]
    by_cases h : j < σ.length
    · rw [if_pos h, List.getElem?_eq_getElem h] <;> rfl
    · rw [if_neg h, List.getElem?_eq_none (by omega)] <;> rfl
  · rw [List.getElem?_set_ne (Ne.symm e)]
theorem SameBut.refl (vs : List Nat) (σ : L2.St) : SameBut vs σ σ := fun _ _ => rfl
theorem SameBut.trans {v1 v2 : List Nat} {σ σ1 σ2 : L2.St} (a : SameBut v1 σ σ1) (b : SameBut v2 σ1 σ2) : SameBut (v1 ++ v2) σ σ2 := fun own h =>
  (b own fun v hv => h v (List.mem_append_right _ hv)).trans (a own fun v hv => h v (List.mem_append_left _ hv))
theorem g_nm (S : Sd G Wx C k X) (hi : X.N[i]? = some x) (hx : Loc X.env.scope x) (hf : X.fn x = true ∨ X.env.scope.names.lookup x = some .local := by first | exact .inl rfl | exact .inr rfl | assumption) : PG X (.Name x pos) (RdG G (IT.names (.nm i)) (setT C (.nm i))) :=
  (pg_name S.nd hi hx hf).of fun v σ H Q ⟨ρ, η, St, w, R, r, h⟩ => by
    replace h : Sat G noX ρ St H (noExc (if i < η.length then .ok (η.set i (some w)) St else .stk)) _ := h
    split at h
    · next hl => exact h.now R.st _ (R.set r hl) (same_set i _)
    · exact h.elim
theorem gs_nil : PGs X [] (RdGs G (ITs.names .nil) (setTs C .nil)) := pgs_nil.of fun vs σ H Q ⟨ρ, η, St, xs, R, r, h⟩ => by
  cases r with
  | nil => exact ⟨rfl, (show Sat G noX ρ St H (noExc (.ok η St)) _ from h).now R.st _ R (SameBut.refl _ _)⟩
  | cons a b => exact (show False from h).elim
theorem gs_cons {t : IT} {ts : ITs} {es : List Expr} (h1 : PG X e (RdG G (IT.names t) (setT C t))) (h2 : PGs X es (RdGs G (ITs.names ts) (setTs C ts))) (hs : (assignEach (e :: es) X.env).map (·.2) = assign e X.env :: (assignEach es X.env).map (·.2) := by rfl) : PGs X (e :: es) (RdGs G (ITs.names (.cons t ts)) (setTs C (.cons t ts))) :=
  (pgs_cons h1 h2 hs).of fun vs σ H Q ⟨ρ, η, St, xs, R, r, h⟩ => by
    cases r with
    | nil => exact (show False from h).elim
    | @cons x v xs vs ra rb =>
      replace h : Sat G noX ρ St H (noExc ((setT C t (.d x) η St).bind fun η1 S1 => setTs C ts xs η1 S1)) _ := h
      rw [noExc_bind] at h
      exact ⟨v, vs, rfl, ρ, η, St, .d x, R, .d ra, h.bindN.mono fun η1 ρ1 S1 H1 _ _ ⟨e1, R1, h2⟩ σ' R' sb => ⟨ρ1, η1, S1, xs, R', rb.mono e1.kp, h2.mono fun η2 ρ2 S2 H2 _ _ q σ2 R2 sb2 => q σ2 R2 (sb.trans sb2)⟩⟩
def ITs.len : ITs → Nat
  | .nil => 0
  | .cons _ ts => ts.len + 1
theorem setTs_len {C : Ctx} : ∀ (ts : ITs) (xs : List D) (η : Env) (S : Store) (η' : Env) (S' : Store), setTs C ts xs η S = .ok η' S' → xs.length = ts.len
  | .nil, [], _, _, _, _, _ => rfl
  | .nil, _ :: _, _, _, _, _, h => nomatch h
  | .cons t ts, [], _, _, _, _, h => nomatch h
  | .cons t ts, x :: xs, η, S, η', S', h => by
    replace h : ((setT C t (.d x) η S).bind fun η1 S1 => setTs C ts xs η1 S1) = .ok η' S' := h
    cases h1 : setT C t (.d x) η S with
    | ok η1 S1 =>
      rw [h1, Res.bind_ok] at h
      exact congrArg (· + 1) (setTs_len ts xs η1 S1 _ _ h)
    | exc c fs S2 => rw [h1] at h; cases h
    | stk => rw [h1] at h; cases h
theorem g_tup {ts : ITs} {es : List Expr} {kk : Nat} (S : Sd G Wx C k X) (hcm : X.calm = true) (h : PGs X es (RdGs G (ITs.names ts) (setTs C ts))) (hn : (assignEach es X.env).length = ts.len := by rfl) (hst : (assignEach es X.env).findIdx? (·.1) = none := by rfl) :
    PG X (.Tuple es kk pos) (RdG G (IT.names (.tup ts)) (setT C (.tup ts))) :=
  (pg_tup hcm h hn hst).of fun v σ H Q ⟨ρ, η, St, w, R, r, h⟩ => by
    replace h : Sat G noX ρ St H (noExc (match seqOf w St with
      | some (.tup, xs) => setTs C ts xs η St
      | _ => .stk)) _ := h
    split at h
    · next xs e =>
      obtain ⟨a, vs, rfl, hk, hs⟩ := r.seqOf R.st e
      rcases hk with ⟨_, hk⟩ | ⟨z, _⟩
      · refine ⟨a, vs, rfl, by rw [S.hK]; exact hk.sq, ?_, ρ, η, St, xs, R, hs, h⟩
        cases hr : setTs C ts xs η St with
        | ok η1 S1 => rw [← hs.length]; exact setTs_len ts xs η St _ _ hr
        | exc c fs S1 => rw [hr] at h; exact h.elim
        | stk => rw [hr] at h; exact h.elim
      · cases z
    · exact h.elim
/-! ### stores into a list, a field -/
def rSetW (G : Wd) : TSet := fun o i v H Q => ∃ ρ S wo wi w, RelS G ρ S H ∧ RelW G none (Live ρ S) ρ H wo o ∧ RelW G none (Live ρ S) ρ H wi i ∧ RelW G none (Live ρ S) ρ H w v ∧
  Sat G noX ρ S H (noExc (setSub wo wi w S)) fun _ ρ' S' H' => Q H'
theorem set_w : PSet X (rSetW G) := by
  intro pins s σ H o i v ov iv u Q I ro ri rv ⟨ρ, St, wo, wi, w, R, r1, r2, r3, h⟩
  refine set_list pins s σ H o i v ov iv u Q I ro ri rv ?_
  unfold setSub at h
  cases r1 with
  | loc hl =>
    cases r2 with
    | d r2 =>
      cases r2 with
      | int j =>
        dsimp only at h
        split at h
        · next xs hc =>
          split at h
          · next m hm =>
            rw [noExc_bind] at h
            cases hcell : (R.cell _ _ _ hc hl) with
            | lst hH hs =>
              rename_i a vs
              have hx := h
              rw [show noExc (toD w St) = toD w St from by rcases toD_cases w St with ⟨x, S1, e⟩ | e <;> rw [e] <;> rfl] at hx
              obtain ⟨x, S1, e1, R1, rx, h2⟩ := Sat.toD_bind R r3 hx
              split at h2
              · next xs' hc' =>
                cases R1.cell _ _ _ hc' hl with
                | lst hH' hs' =>
                  rename_i vs'
                  rw [hH] at hH'
                  cases hH'
                  refine ⟨_, vs, j, m, rfl, rfl, hH, by rw [← hs.length]; exact hm, ?_⟩
                  have al : alive (.lst xs') = true := rfl
                  have e2 := Ext.setCell (c' := .lst (xs'.set m x)) (o := .lst (vs.set m v)) R1 hc' al hl
                  exact h2 ρ _ e2 (R1.setCell hc' al hl (.lst (upd_same ..) ((hs'.set rx m).mono e2.kp)))
              · exact h2.elim
          · exact h.elim
        · next ws hc =>
          split at h
          · next m hm =>
            cases R.cell _ _ _ hc hl with
            | lsw hH hs =>
              rename_i vs
              refine ⟨_, vs, j, m, rfl, rfl, hH, by rw [← hs.length]; exact hm, ?_⟩
              have al : alive (.lsw ws) = true := rfl
              have e2 := Ext.setCell (c' := .lsw (ws.set m w)) (o := .lst (vs.set m v)) R hc al hl
              exact h ρ _ e2 (R.setCell hc al hl (.lsw (upd_same ..) ((hs.set r3 m).mono e2.kp e2.pre)))
          · exact h.elim
        · exact h.elim
      | _ => exact h.elim
    | _ => exact h.elim
  | _ => exact h.elim
theorem g_sub (S : Sd G Wx C k X) (ho : PE X o (RE G none Wx C io)) (hi : PE X e (RE G none Wx C ii))
    (ha : ∀ v, assign (.Subscript o e pos) X.env v = (do
      let ov ← holding [v] (eval o X.env)
      let iv ← holding [v, ov] (eval e X.env)
      standAt pos
      holding [v, ov, iv] (setItem ov iv v)
      release [v, ov, iv] []) := by intro _; rfl) : PG X (.Subscript o e pos) (RdG G (IT.names (.sub io ii)) (setT C (.sub io ii))) :=
  (pg_sub ho hi (set_w (G := G)) ha).of fun v σ H Q ⟨ρ, η, St, w, R, r, h⟩ => by
    replace h : Sat G noX ρ St H (noExc (((evalP C io).1 η St).bind fun x S1 => ((evalP C ii).1 η S1).bind fun k S2 => (setSub x k w S2).bind fun _ S3 => .ok η S3)) _ := h
    rw [noExc_bind] at h
    refine ⟨ρ, η, St, R, (Sat.nx (W1 := noX) h.bindN).mono fun wo ρ1 S1 H1 _ _ ⟨e1, R1, h1⟩ vo ro => ?_⟩
    rw [noExc_bind] at h1
    refine ⟨ρ1, η, S1, R.mono e1 R1, (Sat.nx (W1 := noX) h1.bindN).mono fun wi ρ2 S2 H2 _ _ ⟨e2, R2, h2⟩ vi ri => ?_⟩
    rw [noExc_bind] at h2
    have R12 := (R.mono e1 R1).mono e2 R2
    exact ⟨ρ2, S2, wo, wi, w, R2, ro.mono e2.kp e2.pre, ri, (r.mono e1.kp e1.pre).mono e2.kp e2.pre, h2.bindN.mono fun _ ρ3 S3 H3 _ _ ⟨e3, R3, h3⟩ => h3.now R3 _ (R12.mono e3 R3) (SameBut.refl _ _)⟩
end
end RI
/-! RI13: what loops run over. -/
namespace RI
open PySem PySem.Spec PyProof.Rows L2

/-- what the iterators ask of a later state -/
structure EK (ρ : Rho) (S : Store) (H : Hp) (ρ' : Rho) (S' : Store) (H' : Hp) : Prop where
  kp : Kp (Live ρ S) H (Live ρ' S') H'
  pre : ∃ t, ρ'.l = ρ.l ++ t
  dom : ∀ a, H a ≠ none → H' a ≠ none
theorem Ext.ek {ρ ρ' : Rho} {S S' : Store} {H H' : Hp} (e : Ext ρ S H ρ' S' H') : EK ρ S H ρ' S' H' := ⟨e.kp, by obtain ⟨t, h⟩ := e.pre; exact ⟨t, by rw [h]; rfl⟩, e.dom⟩
/-- the items are known and stay -/
structure FixIt (G : Wd) (ρ : Rho) (S : Store) (H : Hp) (J : It) (xs : List D) : Prop where
  go : ∀ i ρ' S' H', EK ρ S H ρ' S' H' → RelS G ρ' S' H' → i < xs.length → J.go i H'
  yld : ∀ i d v ρ' S' H' H'', EK ρ S H ρ' S' H' → RelS G ρ' S' H' → xs[i]? = some d → J.yld i H' v H'' → Ext ρ' S' H' ρ' S' H'' ∧ RelS G ρ' S' H'' ∧ RelD G (Live ρ' S') H'' d v
  stop : ∀ ρ' S' H', EK ρ S H ρ' S' H' → RelS G ρ' S' H' → J.stop xs.length H'
/-- the list of a cell, as it stands at each turn -/
structure LocIt (G : Wd) (ρ : Rho) (S : Store) (H : Hp) (J : It) (l : Nat) : Prop where
  go : ∀ (i : Nat) ys d ρ' S' H', EK ρ S H ρ' S' H' → RelS G ρ' S' H' → S'[l]? = some (.lst ys) → ys[i]? = some d → J.go i H'
  yld : ∀ (i : Nat) ys d v ρ' S' H' H'', EK ρ S H ρ' S' H' → RelS G ρ' S' H' → S'[l]? = some (.lst ys) → ys[i]? = some d → J.yld i H' v H'' → H'' = H' ∧ RelD G (Live ρ' S') H' d v
  stop : ∀ (i : Nat) ys ρ' S' H', EK ρ S H ρ' S' H' → RelS G ρ' S' H' → S'[l]? = some (.lst ys) → ys.length ≤ i → J.stop i H'
def ItOk (G : Wd) (ρ : Rho) (S : Store) (H : Hp) (J : It) : Src → Prop
  | .fix xs => FixIt G ρ S H J xs
  | .loc l _ => LocIt G ρ S H J l
def RdI (G : Wd) (Wx : L2.WX) (m : Env → Store → Res Src) : TI := fun σ H R => ∃ ρ η S, RelAll G none ρ η S σ H ∧
  Sat G (fun c d H => Wx c d σ H) ρ S H (m η S) fun src ρ' S' H' => ∀ J, ItOk G ρ' S' H' J src → R J H'
section
variable {G : Wd} {ρ : Rho} {S : Store} {H : Hp} {K : PySem.W.Frag} {a : Addr} {xs : List D} {vs : List V}
/-- a sequence that stays as it is -/
def Stays (ρ : Rho) (S : Store) (k : SK) (K : PySem.W.Frag) (H : Hp) (a : Addr) (vs : List V) : Prop := ∀ ρ' S' H', EK ρ S H ρ' S' H' → Sq k K H' a vs
theorem stays_tup (h : SqT K H a vs) : Stays ρ S .tup K H a vs := fun ρ' S' H' e => e.kp.sqT h
theorem stays_lst (h : H a = some (.lst vs)) (n : ¬ Live ρ S a) : Stays ρ S .lst K H a vs := fun ρ' S' H' e => SqL.of (e.kp.keep a _ h fun z => absurd z n)
theorem stays_scr (h : ScrL K H a vs) : Stays ρ S .lst K H a vs := fun ρ' S' H' e => by
  rcases h with ⟨o, h⟩ | h
  · exact .inl (.inr ⟨o, e.kp.keep a _ h fun _ => trivial⟩)
  · exact .inr h
/-- all sequences but cells stay -/
theorem stays_of {k : SK} {w : W} {v : V} (r : RelW G none (Live ρ S) ρ H w v) (e : seqOf w S = some (k, xs)) (hw : ∀ l, w ≠ .loc l) : ∃ a vs, v = .ref a ∧ Stays ρ S k G.K H a vs ∧ RelDs G (Live ρ S) H xs vs := by
  cases r with
  | d r =>
    cases r with
    | tup h hs => cases e; exact ⟨_, _, rfl, stays_tup h.sq, hs⟩
    | lst h n hs => cases e; exact ⟨_, _, rfl, stays_lst h n, hs⟩
    | _ => cases e
  | loc h => exact absurd rfl (hw _)
  | scr h => cases e; exact ⟨_, _, rfl, stays_scr h, RelDs.ints _⟩
  | exn h => cases h
theorem sqL_inj_len : True := trivial
/-- the plain iterator of a sequence -/
def ItS (k : SK) (K : PySem.W.Frag) (a : Addr) : It := match k with
  | .tup => Itt K a
  | .lst => Itl K a
theorem fix_seq {k : SK} (st : Stays ρ S k K H a vs) (r : RelDs G (Live ρ S) H xs vs) : FixIt G ρ S H (ItS k K a) xs := by
  refine ⟨fun i ρ' S' H' e R hi => ?_, fun i d v ρ' S' H' H'' e R hd y => ?_, fun ρ' S' H' e R => ?_⟩
  · obtain ⟨v, hv, _⟩ := r.get (List.getElem?_eq_getElem hi)
    cases k <;> exact ⟨vs, v, st _ _ _ e, hv⟩
  · obtain ⟨u, hu, ru⟩ := r.get hd
    cases k with
    | tup =>
      obtain ⟨rfl, y⟩ := y
      have := y vs (st _ _ _ e)
      rw [hu] at this
      cases this
      exact ⟨Ext.refl, R, ru.mono e.kp⟩
    | lst =>
      obtain ⟨rfl, y⟩ := y
      have := y vs (st _ _ _ e)
      rw [hu] at this
      cases this
      exact ⟨Ext.refl, R, ru.mono e.kp⟩
  · cases k <;> exact ⟨vs, st _ _ _ e, by rw [r.length]; exact Nat.le_refl _⟩
theorem fix_rng {i : Int} {n : Nat} {f : Nat → Int} (hf : ∀ j, f j = i + (j : Nat)) : FixIt G ρ S H (Itr i n) ((List.range n).map fun j => D.int (f j)) := by
  refine ⟨fun j ρ' S' H' e R hj => by show j < n; simpa using hj, fun j d v ρ' S' H' H'' e R hd y => ?_, fun ρ' S' H' e R => by show n ≤ _; simp⟩
  obtain ⟨rfl, rfl⟩ := y
  rw [List.getElem?_map] at hd
  cases hr : (List.range n)[j]? with
  | none => rw [hr] at hd; cases hd
  | some m =>
    have hm : m = j := by
      obtain ⟨h1, h2⟩ := List.getElem?_eq_some_iff.mp hr
      simpa using h2.symm
    rw [hr] at hd
    cases hd
    subst hm
    refine ⟨Ext.refl, R, ?_⟩
    rw [show (fun j => D.int (f j)) m = D.int (i + (m : Nat)) from congrArg D.int (hf m)]
    exact .int _
theorem fix_str {s : List Nat} : FixIt G ρ S H (Its (Str' s)) (s.map fun c => D.str [c]) := by
  refine ⟨fun j ρ' S' H' e R hj => by show j < s.toArray.size; simpa using hj, fun j d v ρ' S' H' H'' e R hd y => ?_, fun ρ' S' H' e R => by show s.toArray.size ≤ _; simp⟩
  obtain ⟨rfl, c, hc, rfl⟩ := y
  replace hc : s.toArray[j]? = some c := hc
  rw [List.getElem?_toArray] at hc
  rw [List.getElem?_map, hc] at hd
  cases hd
  exact ⟨Ext.refl, R, .str [c]⟩
theorem fix_en {k : SK} (st : Stays ρ S k K H a vs) (r : RelDs G (Live ρ S) H xs vs) : FixIt G ρ S H (ItE k K a vs) (xs.mapIdx fun i x => D.tup [.int (i : Nat), x]) := by
  refine ⟨fun i ρ' S' H' e R hi => ⟨st _ _ _ e, by rw [← r.length]; simpa using hi⟩, fun i d v ρ' S' H' H'' e R hd y => ?_, fun ρ' S' H' e R => ⟨st _ _ _ e, by rw [← r.length]; simp⟩⟩
  obtain ⟨T, x, u0, rfl, hT, rfl, hu0, hx⟩ := y
  rw [List.getElem?_mapIdx] at hd
  cases hq : xs[i]? with
  | none => rw [hq] at hd; cases hd
  | some q =>
    rw [hq] at hd
    cases hd
    obtain ⟨u, hu, ru⟩ := r.get hq
    rw [hu] at hx
    cases hx
    exact ⟨Ext.newObj hT, R.newObj hT, RelD.newTup R hT hu0 (.cons (.int _) (.cons (ru.mono e.kp) .nil))⟩
theorem fix_zip {k1 k2 : SK} {b : Addr} {ys : List D} {us : List V} (st : Stays ρ S k1 K H a vs) (r : RelDs G (Live ρ S) H xs vs) (st2 : Stays ρ S k2 K H b us) (r2 : RelDs G (Live ρ S) H ys us) :
    FixIt G ρ S H (ItZ k1 k2 K a b vs us) ((xs.zip ys).map fun p => D.tup [p.1, p.2]) := by
  have l1 := r.length
  have l2 := r2.length
  refine ⟨fun i ρ' S' H' e R hi => ⟨st _ _ _ e, st2 _ _ _ e, ?_⟩, fun i d v ρ' S' H' H'' e R hd y => ?_, fun ρ' S' H' e R => ⟨st _ _ _ e, st2 _ _ _ e, ?_⟩⟩
  · rw [List.length_map, List.length_zip] at hi
    omega
  · obtain ⟨T, x, y, u0, rfl, hT, rfl, hu0, hx, hy⟩ := y
    rw [List.getElem?_map] at hd
    cases hq : (xs.zip ys)[i]? with
    | none => rw [hq] at hd; cases hd
    | some q =>
      rw [hq] at hd
      cases hd
      obtain ⟨h1, h2⟩ := List.getElem?_zip_eq_some.mp hq
      obtain ⟨u, hu, ru⟩ := r.get h1
      obtain ⟨u2, hu2, ru2⟩ := r2.get h2
      rw [hu] at hx
      cases hx
      rw [hu2] at hy
      cases hy
      exact ⟨Ext.newObj hT, R.newObj hT, RelD.newTup R hT hu0 (.cons (ru.mono e.kp) (.cons (ru2.mono e.kp) .nil))⟩
  · rw [List.length_map, List.length_zip]
    omega
theorem loc_it {l : Nat} (hl : ρ.l[l]? = some a) : LocIt G ρ S H (Itl K a) l := by
  have key : ∀ {ys : List D} {ρ' : Rho} {S' : Store} {H' : Hp}, EK ρ S H ρ' S' H' → RelS G ρ' S' H' → S'[l]? = some (.lst ys) → ∃ vs, SqL K H' a vs ∧ RelDs G (Live ρ' S') H' ys vs := by
    intro ys ρ' S' H' e R hc
    obtain ⟨t, et⟩ := e.pre
    cases R.cell l _ a hc (by rw [et, List.getElem?_append_left (get_lt hl)]; exact hl) with
    | lst hH hs => exact ⟨_, SqL.of hH, hs⟩
  refine ⟨fun i ys d ρ' S' H' e R hc hd => ?_, fun i ys d v ρ' S' H' H'' e R hc hd y => ?_, fun i ys ρ' S' H' e R hc hi => ?_⟩
  · obtain ⟨vs, hv, hs⟩ := key e R hc
    obtain ⟨u, hu, ru⟩ := hs.get hd
    exact ⟨vs, u, hv, hu⟩
  · obtain ⟨vs, hv, hs⟩ := key e R hc
    obtain ⟨u, hu, ru⟩ := hs.get hd
    obtain ⟨rfl, y⟩ := y
    have := y vs hv
    rw [hu] at this
    cases this
    exact ⟨rfl, ru⟩
  · obtain ⟨vs, hv, hs⟩ := key e R hc
    exact ⟨vs, hv, by rw [← hs.length]; exact hi⟩
end
/-! ### the rules -/
section
variable {G : Wd} {Wx : L2.WX} {C : Ctx} {k : Nat} {X : Cx} {pos p p2 apos tpos : Pos} {x : Str} {i : Nat} {a b c e o tg : Expr} {ia ib ie io ii : IE} {te : TE}
def iSeq (K : PySem.W.Frag) (tl : TE) : TI := fun σ H R => tl σ H fun x H1 => (∃ k a vs, x = .ref a ∧ Sq k K H1 a vs ∧ R (ItS k K a) H1) ∨ ∃ s, x = .str s ∧ R (Its s) H1
theorem pi_seq {l : Expr} {tl : TE} (hl : PE X l tl) : PI X tg l (iSeq X.K tl) := by
  refine ⟨fun pins s σ H R I h => ?_⟩
  refine thn (hl.run pins s σ H _ I h) fun v s1 ⟨x, H1, I1, r1, q1⟩ => ?_
  rcases q1 with ⟨k, a, vs, rfl, hq, q⟩ | ⟨z, rfl, q⟩
  · cases r1
    cases k with
    | tup =>
      obtain ⟨its, rv, p, hz⟩ := I1.tuple hq
      refine wpAny_pyIter_tuple (show s1.heap.IsTuple a its.toArray from p) ?_
      refine ⟨s1.heap.objs.size, [s1.heap.objs.size], _, _, H1, rfl, I1.kept (t' := s1.toks) fun b o e => Heap.get?_push_of_some _ e, turn_tuple a _, ⟨_, Heap.get?_push_size _ rfl, rfl, rfl⟩, fun b hb => ?_, q⟩
      have e : b = s1.heap.objs.size := by simpa using hb
      subst e
      exact I1.fpOk (Nat.le_refl _) (I1.hok.fresh (Nat.le_refl _))
    | lst =>
      obtain ⟨its, rv, p, hz⟩ := I1.list hq
      refine wpAny_pyIter_list p.isList ?_
      refine ⟨s1.heap.objs.size, [s1.heap.objs.size], _, _, H1, rfl, I1.kept (t' := s1.toks) fun b o e => Heap.get?_push_of_some _ e, turn_list a _, ⟨_, Heap.get?_push_size _ rfl, rfl, rfl⟩, fun b hb => ?_, q⟩
      have e : b = s1.heap.objs.size := by simpa using hb
      subst e
      exact I1.fpOk (Nat.le_refl _) (I1.hok.fresh (Nat.le_refl _))
  · obtain ⟨t, rfl⟩ := r1
    cases ha : z.cps.all (· < 128)
    · exact wpAny_pyIter_wide ha (pi_one (tk := s1.toks) I1 _ (turn_str _ z t "str_iterator" (.inr rfl)) ⟨_, Heap.get?_push_size _ rfl, rfl, rfl⟩ q)
    · exact wpAny_pyIter_ascii ha (pi_one (tk := s1.toks) I1 _ (turn_str _ z t "str_ascii_iterator" (.inl rfl)) ⟨_, Heap.get?_push_size _ rfl, rfl, rfl⟩ q)
theorem i_seq (S : Sd G Wx C k X) (he : PE X e (RE G none Wx C ie)) : PI X tg e (RdI G Wx (evalI C (.seq ie))) :=
  (pi_seq he).of fun σ H R ⟨ρ, η, St, RA, h⟩ => rd1 (f := fun w S1 => match w with
    | .loc l => match S1[l]? with
      | some (.lst ys) => .ok (Src.loc l ys.length) S1
      | _ => .stk
    | .d (.str s) => .ok (Src.fix (s.map fun c => .str [c])) S1
    | w => match seqOf w S1 with
      | some (_, xs) => .ok (Src.fix xs) S1
      | none => .stk) RA h fun w v ρ1 S1 H1 R1 e1 r1 h1 => by
    have gen : (∀ l, w ≠ .loc l) → (∀ s, w ≠ .d (.str s)) → Sat G (fun c d H => Wx c d σ H) ρ1 S1 H1 (match seqOf w S1 with
      | some (_, xs) => .ok (Src.fix xs) S1
      | none => .stk) (fun src ρ' S' H' => ∀ J, ItOk G ρ' S' H' J src → R J H') → (∃ k a vs, v = .ref a ∧ Sq k X.K H1 a vs ∧ R (ItS k X.K a) H1) ∨ ∃ s, v = .str s ∧ R (Its s) H1 := by
      intro hw _ h2
      split at h2
      · next k xs es =>
        obtain ⟨a, vs, rfl, st, hs⟩ := stays_of r1 es hw
        rw [S.hK]
        exact .inl ⟨k, a, vs, rfl, st _ _ _ Ext.refl.ek, h2.now R1.st _ (fix_seq st hs)⟩
      · exact h2.elim
    cases r1 with
    | loc hl =>
      dsimp only at h1
      split at h1
      · next ys hc =>
        cases R1.st.cell _ _ _ hc hl with
        | lst hH hs =>
          exact .inl ⟨.lst, _, _, rfl, SqL.of hH, h1.now R1.st (Itl X.K _) (loc_it hl)⟩
      · exact h1.elim
    | scr hs => exact gen (by simp) (by simp) h1
    | exn z => cases z
    | d r1 =>
      cases r1 with
      | str s => exact .inr ⟨_, rfl, h1.now R1.st _ fix_str⟩
      | non => exact gen (by simp) (by simp) h1
      | bl _ => exact gen (by simp) (by simp) h1
      | int _ => exact gen (by simp) (by simp) h1
      | tup _ _ => exact gen (by simp) (by simp) h1
      | lst _ _ _ => exact gen (by simp) (by simp) h1
      | dic _ _ _ => exact gen (by simp) (by simp) h1
      | obj _ _ _ _ => exact gen (by simp) (by simp) h1
      | err _ _ _ _ _ _ => exact gen (by simp) (by simp) h1
      | fn _ => exact gen (by simp) (by simp) h1
theorem lineR_eq : (lineR : Int) = 2 ^ 62 := by decide
theorem i_rng (S : Sd G Wx C k X) (hg : Gl X "range") (ha : PE X a (RE G none Wx C ia)) (hs : starEach [a] X.env = [(false, eval a X.env)] := by rfl) (h1 : starEach [a] X.env = (false, eval a X.env) :: starEach [] X.env := by rfl) :
    PI X tg (.Call (.Name "range" p) [a] [] pos) (RdI G Wx (evalI C (.rng ia))) :=
  (pi_range1 hg (S.bmg _ (by decide)) (pa_cons ha pa_nil h1) hs).of fun σ H R ⟨ρ, η, St, RA, h⟩ => rd1 (f := fun w S1 => match w with
    | .d (.int n) => if -lineR ≤ n ∧ n < lineR then .ok (Src.fix ((List.range n.toNat).map fun i => .int (i : Nat))) S1 else .stk
    | _ => .stk) RA h fun w v ρ1 S1 H1 R1 e1 r1 h1 => by
    cases r1 with
    | d r1 =>
      cases r1 with
      | int n =>
        dsimp only at h1
        split at h1
        · next hn =>
          rw [lineR_eq] at hn
          exact ⟨n, rfl, hn.1, hn.2, h1.now R1.st (Itr 0 n.toNat) (fix_rng fun j => by simp)⟩
        · exact h1.elim
      | _ => exact h1.elim
    | _ => exact h1.elim
theorem i_rng2 (S : Sd G Wx C k X) (hg : Gl X "range") (ha : PE X a (RE G none Wx C ia)) (hb : PE X b (RE G none Wx C ib)) (hs : starEach [a, b] X.env = [(false, eval a X.env), (false, eval b X.env)] := by rfl) (hs2 : starEach [b] X.env = [(false, eval b X.env)] := by rfl)
    (h1 : starEach [a, b] X.env = (false, eval a X.env) :: starEach [b] X.env := by rfl) (h2 : starEach [b] X.env = (false, eval b X.env) :: starEach [] X.env := by rfl) :
    PI X tg (.Call (.Name "range" p) [a, b] [] pos) (RdI G Wx (evalI C (.rng2 ia ib))) :=
  (pi_range2 hg (S.bmg _ (by decide)) (pa_cons ha (pa_cons hb pa_nil h2) h1) hs hs2).of fun σ H R ⟨ρ, η, St, RA, h⟩ => rd1 (f := fun w S1 => ((evalP C ib).1 η S1).bind fun u S2 => match w, u with
    | .d (.int i), .d (.int n) => if (-lineR ≤ i ∧ i < lineR) ∧ -lineR ≤ n ∧ n < lineR then .ok (Src.fix ((List.range (n - i).toNat).map fun (k : Nat) => .int (i + k))) S2 else .stk
    | _, _ => .stk) RA h fun w v ρ1 S1 H1 R1 e1 r1 h1 => rd1 R1 h1 fun w2 v2 ρ2 S2 H2 R2 e2 r2 h2 => by
    cases r1 with
    | d r1 =>
      cases r1 with
      | int i =>
        cases r2 with
        | d r2 =>
          cases r2 with
          | int n =>
            dsimp only at h2
            split at h2
            · next hn =>
              rw [lineR_eq] at hn
              exact ⟨i, n, rfl, ⟨hn.1.1, hn.1.2, hn.2.1, hn.2.2⟩, h2.now R2.st (Itr i (n - i).toNat) (fix_rng fun j => rfl)⟩
            · exact h2.elim
          | _ => exact h2.elim
        | _ => exact h2.elim
      | _ => exact h2.elim
    | _ => exact h2.elim
theorem i_en {elts : List Expr} {kk : Nat} (S : Sd G Wx C k X) (hg : Gl X "enumerate") (ha : PE X a (RE G none Wx C ia)) (hs : starEach [a] X.env = [(false, eval a X.env)] := by rfl) (h1 : starEach [a] X.env = (false, eval a X.env) :: starEach [] X.env := by rfl) :
    PI X (.Tuple elts kk tpos) (.Call (.Name "enumerate" p) [a] [] pos) (RdI G Wx (evalI C (.enum ia))) :=
  (pi_en hg (S.bmg _ (by decide)) (pa_cons ha pa_nil h1) hs).of fun σ H R ⟨ρ, η, St, RA, h⟩ => rd1 (f := fun w S1 => match w with
    | .loc _ => .stk
    | w => match seqOf w S1 with
      | some (_, xs) => .ok (Src.fix (xs.mapIdx fun i x => .tup [.int (i : Nat), x])) S1
      | none => .stk) RA h fun w v ρ1 S1 H1 R1 e1 r1 h1 => by
    split at h1
    · exact h1.elim
    · next hw =>
      split at h1
      · next k xs es =>
        obtain ⟨a, vs, rfl, st, hs⟩ := stays_of r1 es (fun l z => hw l z)
        exact ⟨k, a, vs, rfl, by rw [S.hK]; exact st _ _ _ Ext.refl.ek, h1.now R1.st _ (by rw [S.hK]; exact fix_en st hs)⟩
      · exact h1.elim
theorem i_zip {elts : List Expr} {kk : Nat} (S : Sd G Wx C k X) (hg : Gl X "zip") (ha : PE X a (RE G none Wx C ia)) (hb : PE X b (RE G none Wx C ib)) (h1 : starEach [a, b] X.env = (false, eval a X.env) :: starEach [b] X.env := by rfl) (h2 : starEach [b] X.env = (false, eval b X.env) :: starEach [] X.env := by rfl)
    (hpl : (backTo pos (starEach [b] X.env)).any (·.1) = false := by rfl) : PI X (.Tuple elts kk tpos) (.Call (.Name "zip" p) [a, b] [] pos) (RdI G Wx (evalI C (.zip ia ib))) :=
  (pi_zp hg (S.bmg _ (by decide)) (pa_cons ha (pa_cons hb pa_nil h2) h1) h1 hpl).of fun σ H R ⟨ρ, η, St, RA, h⟩ => rd1 (f := fun w S1 => ((evalP C ib).1 η S1).bind fun u S2 => match w, u with
    | .d x, .d y => match seqOf (.d x) S2, seqOf (.d y) S2 with
      | some (_, xs), some (_, ys) => .ok (Src.fix ((xs.zip ys).map fun p => .tup [p.1, p.2])) S2
      | _, _ => .stk
    | _, _ => .stk) RA h fun w v ρ1 S1 H1 R1 e1 r1 h1 => rd1 R1 h1 fun w2 v2 ρ2 S2 H2 R2 e2 r2 h2 => by
    split at h2
    · next x y =>
      split at h2
      · next k1 xs k2 ys ex ey =>
        obtain ⟨a, vs, rfl, st, hs⟩ := stays_of (r1.mono e2.kp e2.pre) ex (by simp)
        obtain ⟨b, us, rfl, st2, hs2⟩ := stays_of r2 ey (by simp)
        exact ⟨k1, k2, a, b, vs, us, rfl, by rw [S.hK]; exact st _ _ _ Ext.refl.ek, by rw [S.hK]; exact st2 _ _ _ Ext.refl.ek, h2.now R2.st _ (by rw [S.hK]; exact fix_zip st hs st2 hs2)⟩
      · exact h2.elim
    · exact h2.elim
end
end RI
/-! RI14: list comprehensions. -/
namespace RI
open PySem PySem.Spec PyProof.Rows L2

/-! ### a list under way is held aside -/
def Rho.aside (ρ : Rho) (D : Addr) : Rho := ⟨ρ.l, fun a => ρ.F a ∨ a = D⟩
def Rho.wF (ρ : Rho) (F : Addr → Prop) : Rho := ⟨ρ.l, F⟩
section
variable {G : Wd} {ρ ρ1 ρ2 : Rho} {S S1 S2 : Store} {H H1 H2 : Hp} {D a : Addr} {o : HO} {F : Addr → Prop}
theorem RelW.monoF {L L' : Addr → Prop} {w : W} {v : V} (k : Kp L H L' H1) (p : ∃ t, ρ1.l = ρ.l ++ t) (h : RelW G none L ρ H w v) : RelW G none L' ρ1 H1 w v := by
  obtain ⟨t, e⟩ := p
  have h2 := h.mono (ρ1 := ρ.app t) k ⟨t, rfl⟩
  clear h
  cases h2 with
  | d h => exact .d h
  | loc h => exact .loc (by rw [e]; exact h)
  | scr h => exact .scr h
  | exn h => cases h
theorem RelWs.monoF {L L' : Addr → Prop} (k : Kp L H L' H1) (p : ∃ t, ρ1.l = ρ.l ++ t) : ∀ {ws : List W} {vs : List V}, RelWs G none L ρ H ws vs → RelWs G none L' ρ1 H1 ws vs
  | _, _, .nil => .nil
  | _, _, .cons h hs => .cons (h.monoF k p) (RelWs.monoF k p hs)
theorem RelFw.monoF {L L' : Addr → Prop} (k : Kp L H L' H1) (p : ∃ t, ρ1.l = ρ.l ++ t) : ∀ {ws : List (Nat × W)} {vs : List (Str × V)}, RelFw G L ρ H ws vs → RelFw G L' ρ1 H1 ws vs
  | _, _, .nil => .nil
  | _, _, .cons h hs => .cons (h.monoF k p) (RelFw.monoF k p hs)
theorem RelC.monoF {L L' : Addr → Prop} {c : Cell} (e : ∀ q, H a = some q → H1 a = some q) (k : Kp L H L' H1) (p : ∃ t, ρ1.l = ρ.l ++ t) (h : RelC G L ρ H c a) : RelC G L' ρ1 H1 c a := by
  cases h with
  | lst h hs => exact .lst (e _ h) (hs.mono k)
  | lsw h hs => exact .lsw (e _ h) (hs.monoF k p)
  | dct h hs => exact .dct (e _ h) (hs.mono k)
  | dtt h hs => exact .dtt (e _ h) (hs.mono k)
  | ins hx h hs => exact .ins hx (e _ h) (hs.monoF k p)
  | dead => exact .dead
theorem kp_aside (hD : H D = none) : Kp (Live ρ S) H (Live (ρ.aside D) S) (upd H D o) := by
  refine ⟨fun a q h _ => upd_some hD h, fun a h => ?_⟩
  rcases h with (f | e) | z
  · exact .inl (.inl f)
  · exact .inr (e ▸ hD)
  · exact .inl (.inr z)
theorem RelS.aside (R : RelS G ρ S H) (hD : H D = none) : RelS G (ρ.aside D) S (upd H D o) := by
  refine ⟨R.len, R.nd, fun l c a h1 h2 => (R.cell l c a h1 h2).monoF (fun q h => upd_some hD h) (kp_aside hD) ⟨[], by simp [Rho.aside]⟩, fun a h => upd_dom (R.dom a h), fun a f => ?_⟩
  rcases f with f | e
  · exact ⟨upd_dom (R.res a f).1, (R.res a f).2⟩
  · subst e
    exact ⟨by rw [upd_same]; simp, R.notin hD⟩
theorem RelS.unres (R : RelS G ρ S H) (hF : ∀ a, F a → ρ.F a) : RelS G (ρ.wF F) S H := by
  have k : Kp (Live ρ S) H (Live (ρ.wF F) S) H := ⟨fun _ _ h _ => h, fun a h => .inl (by
    rcases h with f | z
    · exact .inl (hF a f)
    · exact .inr z)⟩
  exact ⟨R.len, R.nd, fun l c a h1 h2 => (R.cell l c a h1 h2).monoF (fun _ h => h) k ⟨[], by simp [Rho.wF]⟩, R.dom, fun a f => R.res a (hF a f)⟩
/-- what is held aside is written -/
theorem kp_write {vs : List V} (hF : ρ.F D) (h : H D = some (.lst vs)) : Kp (Live ρ S) H (Live ρ S) (upd H D o) := by
  refine ⟨fun a q e s => ?_, fun a h => .inl h⟩
  by_cases z : a = D
  · subst z
    have := s (.inl hF)
    rw [h] at e
    cases e
    exact this.elim
  · rw [upd_ne z]; exact e
theorem RelS.write {vs : List V} (R : RelS G ρ S H) (hF : ρ.F D) (h : H D = some (.lst vs)) : RelS G ρ S (upd H D o) :=
  ⟨R.len, R.nd, fun l c a h1 h2 => (R.cell l c a h1 h2).monoF (fun q e => by
    have ne : a ≠ D := fun z => (R.res D hF).2 (by rw [← z]; exact List.mem_of_getElem? h2)
    rw [upd_ne ne]
    exact e) (kp_write hF h) ⟨[], by simp⟩, fun a h => upd_dom (R.dom a h), fun a f => ⟨upd_dom (R.res a f).1, (R.res a f).2⟩⟩
/-- one step, seen from where D is not held aside -/
theorem Ext.unaside (e : Ext ρ1 S1 H1 ρ2 S2 H2) (R2 : RelS G ρ2 S2 H2) (hF : ∀ a, ρ1.F a → F a ∨ a = D) (hF' : ∀ a, F a → ρ1.F a) (hD : ρ1.F D) (nD : ¬ F D) (hd : H1 D ≠ none) : Ext (ρ1.wF F) S1 H1 (ρ2.wF F) S2 H2 := by
  obtain ⟨t, et⟩ := e.pre
  have eF : ρ2.F = ρ1.F := by rw [et]; rfl
  refine ⟨⟨t, by rw [et]; rfl⟩, fun a q h s => ?_, fun a h => ?_, e.dom, fun a f h => e.res a (hF' a f) h⟩
  · by_cases z : a = D
    · subst z
      rw [e.res a hD hd]
      exact h
    · refine e.keep a q h fun l => s ?_
      rcases l with f | l
      · rcases hF a f with f | f
        · exact .inl f
        · exact absurd f z
      · exact .inr l
  · have hl : Live ρ2 S2 a := by
      rcases h with f | l
      · exact .inl (by rw [eF]; exact hF' a f)
      · exact .inr l
    rcases e.new a hl with l | z
    · rcases l with f | l
      · rcases hF a f with f | f
        · exact .inl (.inl f)
        · subst f
          exfalso
          rcases h with f | ⟨m, c, h1, h2, h3⟩
          · exact nD f
          · exact (R2.res a (by rw [eF]; exact hD)).2 (List.mem_of_getElem? h3)
      · exact .inl (.inr l)
    · exact .inr z
theorem Ext.updFresh (e : Ext ρ S H ρ1 S1 H1) (hD : H D = none) : Ext ρ S H ρ1 S1 (upd H1 D o) :=
  ⟨e.pre, fun a q h s => by rw [upd_ne (fun z => by rw [z, hD] at h; cases h)]; exact e.keep a q h s, e.new, fun a h => upd_dom (e.dom a h), fun a f h => by
    have ne : a ≠ D := fun z => h (by rw [z]; exact hD)
    rw [upd_ne ne]; exact e.res a f h⟩
/-- the state of a comprehension: acc stands at D -/
structure LS (G : Wd) (ρ1 : Rho) (S1 : Store) (H1 : Hp) (D : Addr) (ρ : Rho) (S : Store) (H : Hp) (acc : List RI.D) (av : List V) : Prop where
  ext : Ext ρ1 S1 H1 (ρ.wF ρ1.F) S H
  F : ρ.F = fun a => ρ1.F a ∨ a = D
  st : RelS G ρ S H
  at_ : H D = some (.lst av)
  rel : RelDs G (Live ρ S) H acc av
variable {acc : List RI.D} {av : List V}
theorem LS.start (R : RelS G ρ1 S1 H1) (hD : H1 D = none) : LS G ρ1 S1 H1 D (ρ1.aside D) S1 (upd H1 D (.lst [])) [] [] :=
  ⟨Ext.updFresh (D := D) (o := .lst []) (Ext.refl (ρ := ρ1)) hD, rfl, R.aside hD, upd_same .., .nil⟩
theorem LS.ek (R1 : RelS G ρ1 S1 H1) (hD : H1 D = none) (l : LS G ρ1 S1 H1 D ρ S H acc av) : EK ρ1 S1 H1 ρ S H := by
  refine ⟨⟨l.ext.keep, fun a h => ?_⟩, ?_, l.ext.dom⟩
  · by_cases z : a = D
    · exact .inr (z ▸ hD)
    · refine l.ext.new a ?_
      rcases h with f | h
      · rw [l.F] at f
        rcases f with f | f
        · exact .inl f
        · exact absurd f z
      · exact .inr h
  · obtain ⟨t, e⟩ := l.ext.pre
    exact ⟨t, congrArg Rho.l e⟩
/-- a step that leaves acc -/
theorem LS.step (R1 : RelS G ρ1 S1 H1) (hD : H1 D = none) (l : LS G ρ1 S1 H1 D ρ S H acc av) (e : Ext ρ S H ρ2 S2 H2) (R2 : RelS G ρ2 S2 H2) : LS G ρ1 S1 H1 D ρ2 S2 H2 acc av := by
  have hF : ρ.F D := by rw [l.F]; exact .inr rfl
  have nD : ¬ ρ1.F D := fun f => (R1.res D f).1 hD
  have hd : H D ≠ none := by rw [l.at_]; simp
  have e2 := e.unaside (F := ρ1.F) R2 (fun a f => by rw [l.F] at f; exact f) (fun a f => by rw [l.F]; exact .inl f) hF nD hd
  refine ⟨l.ext.trans e2, ?_, R2, ?_, l.rel.mono e.kp⟩
  · obtain ⟨t, et⟩ := e.pre
    rw [et]
    exact l.F
  · rw [e.res D hF hd]
    exact l.at_
theorem LS.app {x : RI.D} {v : V} (R1 : RelS G ρ1 S1 H1) (hD : H1 D = none) (l : LS G ρ1 S1 H1 D ρ S H acc av) (r : RelD G (Live ρ S) H x v) : LS G ρ1 S1 H1 D ρ S (upd H D (.lst (av ++ [v]))) (acc ++ [x]) (av ++ [v]) := by
  have hF : ρ.F D := by rw [l.F]; exact .inr rfl
  have k : Kp (Live ρ S) H (Live ρ S) (upd H D (.lst (av ++ [v]))) := kp_write hF l.at_
  exact ⟨l.ext.updFresh hD, l.F, l.st.write hF l.at_, upd_same .., (l.rel.mono k).append (.cons (r.mono k) .nil)⟩
/-- the list is done -/
theorem LS.done (R1 : RelS G ρ1 S1 H1) (hD : H1 D = none) (l : LS G ρ1 S1 H1 D ρ S H acc av) : RelS G (ρ.wF ρ1.F) S H ∧ RelD G (Live (ρ.wF ρ1.F) S) H (.lst acc) (.ref D) := by
  have hF : ρ.F D := by rw [l.F]; exact .inr rfl
  have hF' : ∀ a, ρ1.F a → ρ.F a := fun a f => by rw [l.F]; exact .inl f
  have k : Kp (Live ρ S) H (Live (ρ.wF ρ1.F) S) H := ⟨fun _ _ h _ => h, fun a h => .inl (by
    rcases h with f | z
    · exact .inl (hF' a f)
    · exact .inr z)⟩
  refine ⟨l.st.unres hF', .lst l.at_ ?_ (l.rel.mono k)⟩
  rintro (f | ⟨m, c, h1, h2, h3⟩)
  · exact (R1.res D f).1 hD
  · exact (l.st.res D hF).2 (List.mem_of_getElem? h3)
/-- the list is done, and gets a cell -/
theorem LS.doneT (R1 : RelS G ρ1 S1 H1) (hD : H1 D = none) (l : LS G ρ1 S1 H1 D ρ S H acc av) : Ext ρ1 S1 H1 ((ρ.wF ρ1.F).app [D]) (S ++ [.lst acc]) H ∧ RelS G ((ρ.wF ρ1.F).app [D]) (S ++ [.lst acc]) H ∧ ((ρ.wF ρ1.F).app [D]).l[S.length]? = some D := by
  have hF : ρ.F D := by rw [l.F]; exact .inr rfl
  have hF' : ∀ a, ρ1.F a → ρ.F a := fun a f => by rw [l.F]; exact .inl f
  have hnot : D ∉ ρ.l := (l.st.res D hF).2
  have hl : ((ρ.wF ρ1.F).app [D]).l = ρ.l ++ [D] := rfl
  have up : ∀ a, Live ((ρ.wF ρ1.F).app [D]) (S ++ [.lst acc]) a → Live ρ S a := fun a h => by
    rcases h with f | ⟨m, c, h1, h2, h3⟩
    · exact .inl (hF' a f)
    · by_cases hm : m < S.length
      · rw [List.getElem?_append_left hm] at h1
        rw [hl, List.getElem?_append_left (by rw [l.st.len]; exact hm)] at h3
        exact .inr ⟨m, c, h1, h2, h3⟩
      · rw [hl, List.getElem?_append_right (by rw [l.st.len]; omega)] at h3
        cases hk : m - ρ.l.length with
        | zero => rw [hk] at h3; simp at h3; subst h3; exact .inl hF
        | succ q => rw [hk] at h3; simp at h3
  have k : Kp (Live ρ S) H (Live ((ρ.wF ρ1.F).app [D]) (S ++ [.lst acc])) H := ⟨fun _ _ h _ => h, fun a h => .inl (up a h)⟩
  refine ⟨?_, ⟨?_, ?_, ?_, ?_, ?_⟩, ?_⟩
  · obtain ⟨t, et⟩ := l.ext.pre
    refine ⟨⟨t ++ [D], by rw [et, Rho.app_app]⟩, l.ext.keep, fun a h => ?_, l.ext.dom, l.ext.res⟩
    by_cases z : a = D
    · exact .inr (z ▸ hD)
    · refine l.ext.new a ?_
      rcases h with f | ⟨m, c, h1, h2, h3⟩
      · exact .inl f
      · by_cases hm : m < S.length
        · rw [List.getElem?_append_left hm] at h1
          rw [hl, List.getElem?_append_left (by rw [l.st.len]; exact hm)] at h3
          exact .inr ⟨m, c, h1, h2, h3⟩
        · rw [hl, List.getElem?_append_right (by rw [l.st.len]; omega)] at h3
          cases hk : m - ρ.l.length with
          | zero => rw [hk] at h3; simp at h3; exact absurd h3.symm z
          | succ q => rw [hk] at h3; simp at h3
  · rw [hl]; simp [l.st.len]
  · rw [hl, List.nodup_append]
    refine ⟨l.st.nd, by simp, fun a ha b hb => ?_⟩
    simp at hb
    subst hb
    intro e
    subst e
    exact hnot ha
  · intro m c a h1 h3
    by_cases hm : m < S.length
    · rw [List.getElem?_append_left hm] at h1
      rw [hl, List.getElem?_append_left (by rw [l.st.len]; exact hm)] at h3
      exact RelC.monoF (ρ := ρ) (ρ1 := (ρ.wF ρ1.F).app [D]) (fun _ h => h) k ⟨[D], rfl⟩ (l.st.cell m c a h1 h3)
    · rw [List.getElem?_append_right (by omega)] at h1
      rw [hl, List.getElem?_append_right (by rw [l.st.len]; omega)] at h3
      have e0 : m - S.length = 0 := by
        cases hk : m - S.length with
        | zero => rfl
        | succ q => rw [hk] at h1; simp at h1
      rw [e0] at h1
      rw [l.st.len, e0] at h3
      simp at h1 h3
      subst h1 h3
      exact .lst l.at_ (l.rel.mono k)
  · intro a ha
    rw [hl, List.mem_append] at ha
    rcases ha with ha | ha
    · exact l.st.dom a ha
    · simp at ha; subst ha; rw [l.at_]; simp
  · intro a f
    refine ⟨(l.st.res a (hF' a f)).1, fun ha => ?_⟩
    rw [hl, List.mem_append] at ha
    rcases ha with ha | ha
    · exact (l.st.res a (hF' a f)).2 ha
    · simp at ha; subst ha; exact (R1.res _ f).1 hD
  · rw [hl, List.getElem?_append_right (by rw [l.st.len]; omega)]
    simp [l.st.len]
theorem Sat.rebase {α β : Type} {W1 W2 : XK} {r : Res α} {f : α → Store → Res β} {P : β → Rho → Store → Hp → Prop} (h : Sat G W1 ρ S H ((noExc r).bind f) P) (ρ' : Rho) (S' : Store) (H' : Hp) :
    Sat G W2 ρ' S' H' (noExc r) fun a ρ2 S2 H2 => Ext ρ' S' H' ρ2 S2 H2 ∧ RelS G ρ2 S2 H2 ∧ Sat G W1 ρ S H (f a S2) P := by
  cases r with
  | ok a S0 => exact fun ρ2 H2 e R => ⟨e, R, h⟩
  | exc c fs S0 => exact h
  | stk => exact h
end
/-- no error is taken here -/
abbrev noW : L2.WX := fun _ _ _ _ => False
section
variable {G : Wd} {Wx : L2.WX} {C : Ctx} {k : Nat} {X : Cx} {pos p p2 apos tpos : Pos} {x : Str} {i : Nat} {a b c e o tg : Expr} {ia ib ie io ii : IE}
theorem Sd.blk (S : Sd G Wx C k X) (s : Shared) (H : Hp) (scope : Scope) (cenv : PySem.Env) (fp : List Addr) : Sd G noW C k (X.blk s H scope cenv fp) :=
  { hK := S.hK, nd := S.nd, tk := takes0, un := S.un, room := S.room, gd := S.gd, fok := fun f fd h => ⟨(S.fok f fd h).ex, (S.fok f fd h).kp⟩, fmg := S.fmg, cmg := S.cmg, bmg := S.bmg, cst := S.cst, tab := S.tab, mth := S.mth, hex := S.hex, clf := S.clf, exf := S.exf, mkf := S.mkf, eqm := S.eqm, nmI := S.nmI, kit := S.kit }
/-- the comprehension's own turn -/
theorem lc_turn {t : IT} {io : IO} {own : List Nat} {ρ1 ρ : Rho} {S1 S : Store} {H1 H H2 : Hp} {D : Addr} {acc : List RI.D} {av : List V} {W1 : XK} {P : W → Rho → Store → Hp → Prop} {fin : List RI.D → Store → Res W} {η : Env} {σ : L2.St} {x : RI.D} {v : V} {Nx : Hp → Prop}
    (hown : ∀ j ∈ IT.names t, j ∈ own) (R1 : RelS G ρ1 S1 H1) (hD : H1 D = none) (l : LS G ρ1 S1 H1 D ρ S H acc av) (e : Ext ρ S H ρ S H2) (R2 : RelS G ρ S H2) (rx : RelD G (Live ρ S) H2 x v)
    (RA : RelAll G none ρ (wipeE η own) S (wipe σ own) H)
    (h : Sat G W1 ρ1 S1 H1 (noExc ((lcTurn (setT C t) (evalC C io) (evalP C ie).1 (wipeE η own) x acc S).bind fin)) P)
    (next : ∀ acc' av' ρ' S' H', LS G ρ1 S1 H1 D ρ' S' H' acc' av' → RelAll G none ρ' (wipeE η own) S' (wipe σ own) H' → Sat G W1 ρ1 S1 H1 (noExc (fin acc' S')) P → Nx H') :
    RdG G (IT.names t) (setT C t) v (wipe σ own) H2 fun σ2 H3 => wipe σ2 own = wipe σ own ∧ RdT G none noW (evalC C io) σ2 H3 fun b H4 =>
      if b = true then RE G none noW C ie σ2 H4 fun y H5 => ∃ ac, H5 D = some (.lst ac) ∧ ac.length < sizeLine ∧ Nx (upd H5 D (.lst (ac ++ [y]))) else Nx H4 := by
  have l2 := l.step R1 hD e R2
  unfold lcTurn at h
  rw [Res.bind_assoc, noExc_bind] at h
  refine ⟨ρ, wipeE η own, S, .d x, RA.mono e R2, .d rx, (h.rebase ρ S H2).mono fun η1 ρ3 S3 H3 _ _ ⟨e3, R3, h3⟩ σ2 RA3 sb => ?_⟩
  have hw : wipe σ2 own = wipe σ own := by
    have := sb own hown
    rw [this]
    apply List.ext_getElem?
    intro j
    rw [wipe_get, wipe_get]
    split
    · cases σ[j]? <;> rfl
    · rfl
  refine ⟨hw, ?_⟩
  have l3 := l2.step R1 hD e3 R3
  have RA' : RelAll G none ρ3 (wipeE η own) S3 (wipe σ own) H3 := (RA.mono e R2).mono e3 R3
  rw [Res.bind_assoc, noExc_bind] at h3
  refine ⟨ρ3, η1, S3, RA3, Sat.nx (W1 := noX) ((h3.rebase ρ3 S3 H3).mono fun b ρ4 S4 H4 _ _ ⟨e4, R4, h4⟩ => ?_)⟩
  have l4 := l3.step R1 hD e4 R4
  cases b with
  | false => exact next acc av ρ4 S4 H4 l4 (RA'.mono e4 R4) h4
  | true =>
    simp only [if_true] at h4 ⊢
    rw [Res.bind_assoc, noExc_bind] at h4
    refine ⟨ρ4, η1, S4, RA3.mono e4 R4, Sat.nx (W1 := noX) ((h4.rebase ρ4 S4 H4).mono fun w ρ5 S5 H5 _ _ ⟨e5, R5, h5⟩ y ry => ?_)⟩
    have l5 := l4.step R1 hD e5 R5
    rw [Res.bind_assoc, noExc_bind] at h5
    rcases toD_cases w S5 with ⟨z, S6, ez⟩ | ez
    · rw [ez, noExc_ok, Res.bind_ok] at h5
      obtain ⟨e6, R6, rz⟩ := toD_ok R5 ry ez
      have l6 := l5.step R1 hD e6 R6
      split at h5
      · next hlen =>
        rw [Res.bind_ok] at h5
        have l7 := l6.app R1 hD rz
        refine ⟨av, l6.at_, by rw [← l6.rel.length, ← line_eq]; exact hlen, next (acc ++ [z]) (av ++ [y]) ρ5 S6 _ l7 ?_ h5⟩
        have RA6 : RelAll G none ρ5 (wipeE η own) S6 (wipe σ own) H5 := ((RA'.mono e4 R4).mono e5 R5).mono e6 R6
        have hF : ρ5.F D := by rw [l6.F]; exact .inr rfl
        exact ⟨l7.st, RA6.len, fun i w hi => let ⟨u, e1, r⟩ := RA6.slot i w hi; ⟨u, e1, r.monoF (kp_write hF l6.at_) ⟨[], by simp⟩⟩⟩
      · exact h5.elim
    · rw [ez] at h5
      exact h5.elim
/-- PTs of the written tests -/
theorem c_none : PTs X [] (RdT G none Wx (evalC C .no)) := ⟨fun pins s σ H Q I ⟨ρ, η, St, R, h⟩ => pts_nil.run pins s σ H Q I ((show Sat _ _ _ _ _ (.ok true St) _ from h).now R.st)⟩
theorem c_one (h : PT X c (RT G none Wx C ic)) : PTs X [c] (RdT G none Wx (evalC C (.yes ic))) := pts_one h
/-- the loop of a comprehension -/
theorem lc_loop {t : IT} {io : IO} {it : II} {own : List Nat} {σ : L2.St} {H : Hp} {Q : VK} (th : Bool) (hown : ∀ j ∈ IT.names t, j ∈ own)
    (hq : RdE G none Wx (fun η S => noExc ((evalI C it η S).bind fun src S1 => (lcSrc (setT C t) (evalC C io) (evalP C ie).1 (wipeE η own) src S1).bind (finS th))) σ H Q) :
    tLc (RdI G Wx (evalI C it)) (RdG G (IT.names t) (setT C t)) (RdT G none noW (evalC C io)) (RE G none noW C ie) own σ H Q := by
  obtain ⟨ρ, η, St, R, h⟩ := hq
  replace h : Sat G (fun c d H => Wx c d σ H) ρ St H (noExc ((evalI C it η St).bind fun src S1 => (lcSrc (setT C t) (evalC C io) (evalP C ie).1 (wipeE η own) src S1).bind (finS th))) _ := h
  rw [noExc_bind] at h
  refine ⟨ρ, η, St, R, Sat.nx (W1 := noX) ((h.rebase ρ St H).mono fun src ρ1 S1 H1 _ _ ⟨e1, R1, h1⟩ J hJ D hD => ?_)⟩
  replace h1 : Sat G (fun c d H => Wx c d σ H) ρ1 S1 H1 (noExc ((lcSrc (setT C t) (evalC C io) (evalP C ie).1 (wipeE η own) src S1).bind (finS th))) (fun w ρ' S' H' => ∀ v, RelW G none (Live ρ' S') ρ' H' w v → Q v H') := by
    revert h1
    generalize noExc _ = r
    intro h1
    cases r with
    | ok a S' => exact h1.from e1
    | exc c fs S' => exact h1.from e1
    | stk => exact h1
  have RA1 : RelAll G none ρ1 (wipeE η own) S1 (wipe σ own) H1 := (R.mono e1 R1).wipe own
  have RA0 : RelAll G none (ρ1.aside D) (wipeE η own) S1 (wipe σ own) (upd H1 D (.lst [])) :=
    ⟨R1.aside hD, RA1.len, fun i w hi => let ⟨u, eu, r⟩ := RA1.slot i w hi; ⟨u, eu, r.monoF (kp_aside hD) ⟨[], by simp [Rho.aside]⟩⟩⟩
  have l0 : LS G ρ1 S1 H1 D (ρ1.aside D) S1 (upd H1 D (.lst [])) [] [] := LS.start R1 hD
  have fin : ∀ {acc : List RI.D} {av : List V} {ρ' : Rho} {S' : Store} {H' : Hp}, LS G ρ1 S1 H1 D ρ' S' H' acc av → Sat G (fun c d H => Wx c d σ H) ρ1 S1 H1 (noExc (finS th acc S')) (fun w ρ' S' H' => ∀ v, RelW G none (Live ρ' S') ρ' H' w v → Q v H') → Q (.ref D) H' := by
    intro acc av ρ' S' H' l hs
    cases th with
    | false =>
      obtain ⟨d1, d2⟩ := l.done R1 hD
      exact hs _ _ l.ext d1 _ (.d d2)
    | true =>
      obtain ⟨d0, d1, d2⟩ := l.doneT R1 hD
      exact hs _ _ d0 d1 _ (.loc d2)
  cases src with
  | fix xs =>
    refine ⟨fun i m H' => m = xs.length - i ∧ i ≤ xs.length ∧ ∃ acc av ρ' S', LS G ρ1 S1 H1 D ρ' S' H' acc av ∧ RelAll G none ρ' (wipeE η own) S' (wipe σ own) H' ∧
      Sat G (fun c d H => Wx c d σ H) ρ1 S1 H1 (noExc ((lcFix (setT C t) (evalC C io) (evalP C ie).1 (wipeE η own) (xs.drop i) acc S').bind (finS th))) (fun w ρ' S' H' => ∀ v, RelW G none (Live ρ' S') ρ' H' w v → Q v H'),
      ⟨_, rfl, Nat.zero_le _, [], [], ρ1.aside D, S1, l0, RA0, h1⟩, ?_⟩
    rintro i m H' ⟨rfl, hi, acc, av, ρ', S', l, RA, hs⟩
    by_cases hlt : i < xs.length
    · right
      refine ⟨hJ.go i ρ' S' H' (l.ek R1 hD) l.st hlt, fun H'' => ∃ acc av ρ' S', LS G ρ1 S1 H1 D ρ' S' H'' acc av ∧ RelAll G none ρ' (wipeE η own) S' (wipe σ own) H'' ∧
        Sat G (fun c d H => Wx c d σ H) ρ1 S1 H1 (noExc ((lcFix (setT C t) (evalC C io) (evalP C ie).1 (wipeE η own) (xs.drop (i + 1)) acc S').bind (finS th))) (fun w ρ' S' H' => ∀ v, RelW G none (Live ρ' S') ρ' H' w v → Q v H'),
        fun H'' q => ⟨xs.length - (i + 1), by omega, rfl, hlt, q⟩, fun v H2 y => ?_⟩
      obtain ⟨e2, R2, rx⟩ := hJ.yld i xs[i] v ρ' S' H' H2 (l.ek R1 hD) l.st (List.getElem?_eq_getElem hlt) y
      rw [List.drop_eq_getElem_cons hlt] at hs
      unfold lcFix at hs
      rw [Res.bind_assoc] at hs
      exact lc_turn hown R1 hD l e2 R2 rx RA hs fun acc' av' ρ2 S2 H3 l2 RA2 h2 => ⟨acc', av', ρ2, S2, l2, RA2, h2⟩
    · left
      have hi' : i = xs.length := by omega
      subst hi'
      refine ⟨hJ.stop ρ' S' H' (l.ek R1 hD) l.st, fin l ?_⟩
      rw [List.drop_length] at hs
      exact hs
  | loc lc n =>
    refine ⟨fun i m H' => ∃ acc av ρ' S', LS G ρ1 S1 H1 D ρ' S' H' acc av ∧ RelAll G none ρ' (wipeE η own) S' (wipe σ own) H' ∧
      Sat G (fun c d H => Wx c d σ H) ρ1 S1 H1 (noExc ((lcLoc (setT C t) (evalC C io) (evalP C ie).1 (wipeE η own) lc m i acc S').bind (finS th))) (fun w ρ' S' H' => ∀ v, RelW G none (Live ρ' S') ρ' H' w v → Q v H'),
      ⟨n, [], [], ρ1.aside D, S1, l0, RA0, h1⟩, ?_⟩
    rintro i m H' ⟨acc, av, ρ', S', l, RA, hs⟩
    cases m with
    | zero =>
      left
      unfold lcLoc at hs
      split at hs
      · next ys hc =>
        split at hs
        · next hle => exact ⟨hJ.stop i ys ρ' S' H' (l.ek R1 hD) l.st hc hle, fin l hs⟩
        · exact hs.elim
      · exact hs.elim
    | succ m =>
      right
      unfold lcLoc at hs
      split at hs
      · next ys hc =>
        split at hs
        · next x hx =>
          refine ⟨hJ.go i ys x ρ' S' H' (l.ek R1 hD) l.st hc hx, fun H'' => ∃ acc av ρ' S', LS G ρ1 S1 H1 D ρ' S' H'' acc av ∧ RelAll G none ρ' (wipeE η own) S' (wipe σ own) H'' ∧
            Sat G (fun c d H => Wx c d σ H) ρ1 S1 H1 (noExc ((lcLoc (setT C t) (evalC C io) (evalP C ie).1 (wipeE η own) lc m (i + 1) acc S').bind (finS th))) (fun w ρ' S' H' => ∀ v, RelW G none (Live ρ' S') ρ' H' w v → Q v H'),
            fun H'' q => ⟨m, Nat.lt_succ_self _, q⟩, fun v H2 y => ?_⟩
          obtain ⟨e2, rx⟩ := hJ.yld i ys x v ρ' S' H' H2 (l.ek R1 hD) l.st hc hx y
          subst e2
          rw [Res.bind_assoc] at hs
          exact lc_turn hown R1 hD l Ext.refl l.st rx RA hs fun acc' av' ρ2 S2 H3 l2 RA2 h2 => ⟨acc', av', ρ2, S2, l2, RA2, h2⟩
        · exact hs.elim
      · exact hs.elim
theorem e_lc {t : IT} {io : IO} {it : II} {own : List (Str × Nat)} {vs : List Nat} {elt iter : Expr} {ifs : List Expr} {scope : Scope} (S : Sd G Wx C k X) (hcm : X.calm = true) (ok : BlkOk X.N X.env.scope scope own) (hvs : vs = own.map (·.2)) (hi : PI X tg iter (RdI G Wx (evalI C it)))
    (hg : ∀ (s : Shared) (H : Hp) (Cc : Addr) (cl : List (Str × Addr)) (fp : List Addr), Sd G noW C k (X.blk s H scope (compEnvC scope cl Cc X.env) fp) → PG (X.blk s H scope (compEnvC scope cl Cc X.env) fp) tg (RdG G (IT.names t) (setT C t)))
    (ht : ∀ (s : Shared) (H : Hp) (Cc : Addr) (cl : List (Str × Addr)) (fp : List Addr), Sd G noW C k (X.blk s H scope (compEnvC scope cl Cc X.env) fp) → PTs (X.blk s H scope (compEnvC scope cl Cc X.env) fp) ifs (RdT G none noW (evalC C io)))
    (he : ∀ (s : Shared) (H : Hp) (Cc : Addr) (cl : List (Str × Addr)) (fp : List Addr), Sd G noW C k (X.blk s H scope (compEnvC scope cl Cc X.env) fp) → PE (X.blk s H scope (compEnvC scope cl Cc X.env) fp) elt (RE G none noW C ie))
    (hown : ((IT.names t).all fun j => vs.contains j) = true := by rfl) (hs : ∀ x, foldedSetIterable iter X.env x = pure x := by intro _; rfl) :
    PE X (.ListComp elt [⟨tg, iter, ifs, 0⟩] scope pos) (RE G none Wx C (.lc ie vs t it io)) := by
  subst hvs
  exact (pe_lc hcm S.nd hi ok (fun s H Cc cl fp => hg s H Cc cl fp (S.blk ..)) (fun s H Cc cl fp => ht s H Cc cl fp (S.blk ..)) (fun s H Cc cl fp => he s H Cc cl fp (S.blk ..)) hs).of fun σ H Q h => lc_loop false (fun j hj => by
    have := List.all_eq_true.mp hown j hj
    simpa using this) h
theorem noExc_thaw {r : Res (List RI.D)} : (noExc (r.bind fun xs S2 => .ok (W.d (.lst xs)) S2)).bind thawD = noExc (r.bind (finS true)) := by cases r <;> rfl
theorem thaw_lc {t : IT} {io : IO} {it : II} {own : List Nat} {σ : L2.St} {H : Hp} {Q : VK} (hq : RE G none Wx C (.thaw (.lc ie own t it io)) σ H Q) :
    RdE G none Wx (fun η S => noExc ((evalI C it η S).bind fun src S1 => (lcSrc (setT C t) (evalC C io) (evalP C ie).1 (wipeE η own) src S1).bind (finS true))) σ H Q := by
  obtain ⟨ρ, η, St, R, h⟩ := hq
  refine ⟨ρ, η, St, R, ?_⟩
  replace h : Sat G (fun c d H => Wx c d σ H) ρ St H ((noExc ((evalI C it η St).bind fun src S1 => (lcSrc (setT C t) (evalC C io) (evalP C ie).1 (wipeE η own) src S1).bind fun xs S2 => .ok (W.d (.lst xs)) S2)).bind thawD) _ := h
  rw [← Res.bind_assoc, noExc_thaw, Res.bind_assoc] at h
  exact h
theorem e_lcT {t : IT} {io : IO} {it : II} {own : List (Str × Nat)} {vs : List Nat} {elt iter : Expr} {ifs : List Expr} {scope : Scope} (S : Sd G Wx C k X) (hcm : X.calm = true) (ok : BlkOk X.N X.env.scope scope own) (hvs : vs = own.map (·.2)) (hi : PI X tg iter (RdI G Wx (evalI C it)))
    (hg : ∀ (s : Shared) (H : Hp) (Cc : Addr) (cl : List (Str × Addr)) (fp : List Addr), Sd G noW C k (X.blk s H scope (compEnvC scope cl Cc X.env) fp) → PG (X.blk s H scope (compEnvC scope cl Cc X.env) fp) tg (RdG G (IT.names t) (setT C t)))
    (ht : ∀ (s : Shared) (H : Hp) (Cc : Addr) (cl : List (Str × Addr)) (fp : List Addr), Sd G noW C k (X.blk s H scope (compEnvC scope cl Cc X.env) fp) → PTs (X.blk s H scope (compEnvC scope cl Cc X.env) fp) ifs (RdT G none noW (evalC C io)))
    (he : ∀ (s : Shared) (H : Hp) (Cc : Addr) (cl : List (Str × Addr)) (fp : List Addr), Sd G noW C k (X.blk s H scope (compEnvC scope cl Cc X.env) fp) → PE (X.blk s H scope (compEnvC scope cl Cc X.env) fp) elt (RE G none noW C ie))
    (hown : ((IT.names t).all fun j => vs.contains j) = true := by rfl) (hs : ∀ x, foldedSetIterable iter X.env x = pure x := by intro _; rfl) :
    PE X (.ListComp elt [⟨tg, iter, ifs, 0⟩] scope pos) (RE G none Wx C (.thaw (.lc ie vs t it io))) := by
  subst hvs
  exact (pe_lc hcm S.nd hi ok (fun s H Cc cl fp => hg s H Cc cl fp (S.blk ..)) (fun s H Cc cl fp => ht s H Cc cl fp (S.blk ..)) (fun s H Cc cl fp => he s H Cc cl fp (S.blk ..)) hs).of fun σ H Q h => lc_loop true (fun j hj => by
    have := List.all_eq_true.mp hown j hj
    simpa using this) (thaw_lc h)
end
end RI
/-! RI15: statements. -/
namespace RI
open PySem PySem.Spec PyProof.Rows L2
def FlowOk (G : Wd) (ex : Ex) (D : Ends) (f : Flow) (ρ : Rho) (S : Store) (H : Hp) : Prop := match f with
  | .nx η => ∀ σ, RelAll G ex ρ η S σ H → D.nx σ H
  | .brk η => ∀ σ, RelAll G ex ρ η S σ H → D.bk σ H
  | .cont η => ∀ σ, RelAll G ex ρ η S σ H → D.ct σ H
  | .ret w => ∀ v, RelW G ex (Live ρ S) ρ H w v → D.rt v H
def RdS (G : Wd) (ex : Ex) (E : XK) (m : Env → Store → Res Flow) : TS := fun D σ H => ∃ ρ η S, RelAll G ex ρ η S σ H ∧ Sat G E ρ S H (m η S) (FlowOk G ex D)
abbrev RS (G : Wd) (E : XK) (C : Ctx) (s : IS) : TS := RdS G none E (execS C s)
abbrev RSs (G : Wd) (E : XK) (C : Ctx) (s : ISs) : TS := RdS G none E (execSs C s)
abbrev RSx (G : Wd) (ex : Ex) (E : XK) (C : Ctx) (s : IS) : TS := RdS G ex E (execS C s)
abbrev RSsx (G : Wd) (ex : Ex) (E : XK) (C : Ctx) (s : ISs) : TS := RdS G ex E (execSs C s)
theorem EK.ext {ρ ρ1 ρ2 : Rho} {S S1 S2 : Store} {H H1 H2 : Hp} (a : EK ρ S H ρ1 S1 H1) (b : Ext ρ1 S1 H1 ρ2 S2 H2) : EK ρ S H ρ2 S2 H2 := by
  obtain ⟨t, e⟩ := a.pre
  obtain ⟨u, e'⟩ := b.pre
  refine ⟨⟨fun x o h s => ?_, fun x h => ?_⟩, ⟨t ++ u, by rw [e']; show ρ1.l ++ u = _; rw [e, List.append_assoc]⟩, fun x h => b.dom x (a.dom x h)⟩
  · refine b.keep x o (a.kp.keep x o h s) fun h1 => ?_
    rcases a.kp.new x h1 with z | z
    · exact s z
    · rw [z] at h; cases h
  · rcases b.new x h with z | z
    · exact a.kp.new x z
    · right
      cases e : H x with
      | none => rfl
      | some o => exact absurd z (a.dom x (by rw [e]; simp))
/-- errors by class and heap alone -/
abbrev wE (E : XK) : L2.WX := fun c d _ H => E c d H
theorem fl {G : Wd} {ex : Ex} {E : XK} {ρ : Rho} {S : Store} {H : Hp} {D : Ends} {f : Flow} (R : RelS G ρ S H) (h : Sat G E ρ S H (.ok f S) (FlowOk G ex D)) : FlowOk G ex D f ρ S H := h.now R
section
variable {G : Wd} {ex : Ex} {E : XK} {C : Ctx} {k : Nat} {X : Cx} {pos p p2 apos tpos pos' : Pos} {x : Str} {i : Nat} {a b c e o tg : Expr} {ia ib ie io ii : IE} {st : Stmt} {sts : List Stmt} {is : IS} {iss : ISs}
theorem s_nil : PSs X [] (RSsx G ex E C .nil) := pss_nil.of fun D σ H ⟨ρ, η, St, R, h⟩ => (fl (f := .nx η) (E := E) R.st h) σ R
theorem s_cons (h1 : PS X st (RSx G ex E C is)) (h2 : PSs X sts (RSsx G ex E C iss)) : PSs X (st :: sts) (RSsx G ex E C (.cons is iss)) :=
  (pss_cons h1 h2).of fun D σ H ⟨ρ, η, St, R, h⟩ => by
    replace h : Sat G E ρ St H ((execS C is η St).bind fun f S1 => match f with
      | .nx η1 => execSs C iss η1 S1
      | f => .ok f S1) (FlowOk G ex D) := h
    refine ⟨ρ, η, St, R, h.bind.mono fun f ρ1 S1 H1 _ _ ⟨e1, R1, h1⟩ => ?_⟩
    cases f with
    | nx η1 => exact fun σ1 RA => ⟨ρ1, η1, S1, RA, h1⟩
    | brk η1 => exact fun σ RA => fl (E := E) (D := D) (f := .brk η1) R1 h1 σ RA
    | cont η1 => exact fun σ RA => fl (E := E) (D := D) (f := .cont η1) R1 h1 σ RA
    | ret w => exact fun v r => fl (E := E) (D := D) (f := .ret w) R1 h1 v r
/-- an expression, then the end -/
theorem rdS1 {m : Env → Store → Res W} {f : W → Store → Res Flow} {ρ : Rho} {S : Store} {H : Hp} {σ : L2.St} {η : Env} {D : Ends} {Q : VK} (R : RelAll G ex ρ η S σ H) (h : Sat G E ρ S H ((m η S).bind f) (FlowOk G ex D))
    (k : ∀ w v ρ1 S1 H1, RelAll G ex ρ1 η S1 σ H1 → Ext ρ S H ρ1 S1 H1 → RelW G ex (Live ρ1 S1) ρ1 H1 w v → Sat G E ρ1 S1 H1 (f w S1) (FlowOk G ex D) → Q v H1) : RdE G ex (wE E) m σ H Q := rd1 (Wx := wE E) R h k
theorem s_doc {j pos pos'} {s : Str} : PS X (.Expr (.Constant (.str s) j pos) pos') (RSx G ex E C .pass) := ps_doc.of fun D σ H ⟨ρ, η, St, R, h⟩ => (fl (f := .nx η) (E := E) R.st h) σ R
theorem s_pass : PS X (.Pass pos) (RSx G ex E C .pass) := ps_pass.of fun D σ H ⟨ρ, η, St, R, h⟩ => (fl (f := .nx η) (E := E) R.st h) σ R
theorem s_brk : PS X (.Break pos) (RSx G ex E C .brk) := ps_break.of fun D σ H ⟨ρ, η, St, R, h⟩ => (fl (f := .brk η) (E := E) R.st h) σ R
theorem s_cont : PS X (.Continue pos) (RSx G ex E C .cont) := ps_continue.of fun D σ H ⟨ρ, η, St, R, h⟩ => (fl (f := .cont η) (E := E) R.st h) σ R
theorem s_expr (he : PE X e (RE G ex (wE E) C ie)) (hs : swapsWith e none pos.line X.env = pure false := by rfl) : PS X (.Expr e pos) (RSx G ex E C (.expr ie)) :=
  (ps_expr he hs).of fun D σ H ⟨ρ, η, St, R, h⟩ => rdS1 (f := fun _ S1 => .ok (.nx η) S1) R h fun w v ρ1 S1 H1 R1 e1 r1 h1 => h1.now R1.st σ R1
theorem s_ret (he : PE X e (RE G ex (wE E) C ie)) : PS X (.Return (some e) pos) (RSx G ex E C (.ret ie)) :=
  (ps_ret he).of fun D σ H ⟨ρ, η, St, R, h⟩ => rdS1 (f := fun w S1 => .ok (.ret w) S1) R h fun w v ρ1 S1 H1 R1 e1 r1 h1 => h1.now R1.st v r1
theorem s_retN : PS X (.Return none pos) (RSx G ex E C .retN) := ps_retN.of fun D σ H ⟨ρ, η, St, R, h⟩ => (fl (f := .ret (.d .non)) (E := E) R.st h) _ (.d .non)
/-- never reached -/
theorem s_never (hc : C.P.cls[9999]? = none := by rfl) : PS X st (RSx G ex E C (.raise 9999 .nil)) := ps_never.of fun D σ H ⟨ρ, η, St, R, h⟩ => by
  replace h : Sat G E ρ St H (match C.P.cls[9999]? with
    | some k => match k.exc with
      | some fs => match fieldsOf fs [] with
        | some ds => .exc 9999 ds St
        | none => .stk
      | none => .stk
    | none => .stk) (FlowOk G ex D) := h
  rw [hc] at h
  exact h
theorem s_if {sa sb : List Stmt} {ja jb : ISs} (hc : PT X c (RT G ex (wE E) C ie)) (ha : PSs X sa (RSsx G ex E C ja)) (hb : PSs X sb (RSsx G ex E C jb)) : PS X (.If c sa sb pos) (RSx G ex E C (.ife ie ja jb)) :=
  (ps_if hc ha hb).of fun D σ H ⟨ρ, η, St, R, h⟩ => rd1t (Wx := wE E) (f := fun k S1 => if k = true then execSs C ja η S1 else execSs C jb η S1) R h fun z ρ1 S1 H1 R1 e1 h1 => by
    cases z with
    | true => exact ⟨ρ1, η, S1, R1, h1⟩
    | false => exact ⟨ρ1, η, S1, R1, h1⟩
theorem asg_of {t : IT} {D : Ends} {σ : L2.St} {H : Hp} (q : RS G E C (.asg t ie) D σ H) : tAsg (RE G none (wE E) C ie) (RdG G (IT.names t) (setT C t)) D σ H := by
  obtain ⟨ρ, η, St, R, h⟩ := q
  exact rdS1 (f := fun w S1 => (noExc (setT C t w η S1)).bind fun η1 S2 => .ok (.nx η1) S2) R h fun w v ρ1 S1 H1 R1 e1 r1 h1 =>
    ⟨ρ1, η, S1, w, R1, r1, (h1.bindN (W2 := noX)).mono fun η1 ρ2 S2 H2 _ _ ⟨e2, R2, h2⟩ σ' RA sb => h2.now R2 σ' RA⟩
theorem s_asg {t : IT} (he : PE X e (RE G none (wE E) C ie)) (hg : PG X tg (RdG G (IT.names t) (setT C t))) (hs : swapsWithSole [tg] e pos.line X.env = pure false := by rfl) (hw : swappedStores [tg] e X.env = pure none := by rfl) (h1 : (assignEach [tg] X.env).map (·.2) = [assign tg X.env] := by rfl) : PS X (.Assign [tg] e pos) (RS G E C (.asg t ie)) :=
  (ps_asg he hg hs hw h1).of fun D σ H q => asg_of q
theorem set_nm {D : Ends} {σ : L2.St} {H : Hp} {v : V} {K : St → Hp → Prop} (h : RdG G (IT.names (.nm i)) (setT C (.nm i)) v σ H K) : gName i v σ H K := by
  obtain ⟨ρ, η, St, w, R, r, h⟩ := h
  replace h : Sat G noX ρ St H (noExc (if i < η.length then .ok (η.set i (some w)) St else .stk)) _ := h
  split at h
  · next hl => exact h.now R.st _ (R.set r hl) (same_set i _)
  · exact h.elim
theorem set_nmx {D : Ends} {σ : L2.St} {H : Hp} {v : V} {w : W} {ρ : Rho} {S : Store} {η : Env} (R : RelAll G ex ρ η S σ H) (r : RelW G ex (Live ρ S) ρ H w v)
    (h : Sat G E ρ S H ((noExc (setT C (.nm i) w η S)).bind fun η1 S2 => .ok (.nx η1) S2) (FlowOk G ex D)) : gName i v σ H D.nx := by
  replace h : Sat G E ρ S H ((noExc (if i < η.length then .ok (η.set i (some w)) S else .stk)).bind fun η1 S2 => .ok (.nx η1) S2) (FlowOk G ex D) := h
  split at h
  · next hl => exact h.now R.st _ (R.set r hl)
  · exact h.elim
theorem s_set (S : Sd G (wE E) C k X) (hi : X.N[i]? = some x) (hx : Loc X.env.scope x) (he : PE X e (RE G ex (wE E) C ie)) (hs : swapsWith e (some (.Name x pos')) pos.line X.env = pure false := by rfl)
    (hf : X.fn x = true ∨ X.env.scope.names.lookup x = some .local := by first | exact .inl rfl | exact .inr rfl | assumption) : PS X (.Assign [.Name x pos'] e pos) (RSx G ex E C (.asg (.nm i) ie)) :=
  (ps_set S.nd hi hx he hs hf).of fun D σ H ⟨ρ, η, St, R, h⟩ => rdS1 (f := fun w S1 => (noExc (setT C (.nm i) w η S1)).bind fun η1 S2 => .ok (.nx η1) S2) R h fun w v ρ1 S1 H1 R1 e1 r1 h1 =>
    set_nmx (D := D) R1 r1 h1
/-- name = [..] on one line -/
theorem s_setLc {t : IT} {io : IO} {it : II} {own : List (Str × Nat)} {vs : List Nat} {elt iter : Expr} {ifs : List Expr} {scope : Scope} {y : Str} {py spos : Pos} (S : Sd G (wE E) C k X) (hcm : X.calm = true) (hy : X.N[i]? = some y) (hyl : X.env.scope.names.lookup y = some .local)
    (hsw : swapsWith (.ListComp elt [⟨tg, iter, ifs, 0⟩] scope pos) (some (.Name y py)) spos.line X.env = pure true)
    (ok : BlkOk X.N X.env.scope scope own) (hvs : vs = own.map (·.2)) (hi : PI X tg iter (RdI G (wE E) (evalI C it)))
    (hg : ∀ (s : Shared) (H : Hp) (Cc : Addr) (cl : List (Str × Addr)) (fp : List Addr), Sd G noW C k (X.blk s H scope (compEnvC scope cl Cc X.env) fp) → PG (X.blk s H scope (compEnvC scope cl Cc X.env) fp) tg (RdG G (IT.names t) (setT C t)))
    (ht : ∀ (s : Shared) (H : Hp) (Cc : Addr) (cl : List (Str × Addr)) (fp : List Addr), Sd G noW C k (X.blk s H scope (compEnvC scope cl Cc X.env) fp) → PTs (X.blk s H scope (compEnvC scope cl Cc X.env) fp) ifs (RdT G none noW (evalC C io)))
    (he : ∀ (s : Shared) (H : Hp) (Cc : Addr) (cl : List (Str × Addr)) (fp : List Addr), Sd G noW C k (X.blk s H scope (compEnvC scope cl Cc X.env) fp) → PE (X.blk s H scope (compEnvC scope cl Cc X.env) fp) elt (RE G none noW C ie))
    (hown : ((IT.names t).all fun j => vs.contains j) = true := by rfl) (hs : ∀ x, foldedSetIterable iter X.env x = pure x := by intro _; rfl) :
    PS X (.Assign [.Name y py] (.ListComp elt [⟨tg, iter, ifs, 0⟩] scope pos) spos) (RS G E C (.asg (.nm i) (.lc ie vs t it io))) := by
  subst hvs
  refine (ps_setLc hcm S.nd hy hyl hsw hi ok (fun s H Cc cl fp => hg s H Cc cl fp (S.blk ..)) (fun s H Cc cl fp => ht s H Cc cl fp (S.blk ..)) (fun s H Cc cl fp => he s H Cc cl fp (S.blk ..)) hs).of fun D σ H q => ?_
  obtain ⟨ρ, η, St, R, h⟩ := q
  refine lc_loop (Wx := wE E) false (fun j hj => by
    have := List.all_eq_true.mp hown j hj
    simpa using this) (rdS1 (f := fun w S1 => (noExc (setT C (.nm i) w η S1)).bind fun η1 S2 => .ok (.nx η1) S2) R h fun w v ρ1 S1 H1 R1 e1 r1 h1 =>
    set_nm (D := D) ⟨ρ1, η, S1, w, R1, r1, (h1.bindN (W2 := noX)).mono fun η1 ρ2 S2 H2 _ _ ⟨e2, R2, h2⟩ σ' RA sb => h2.now R2 σ' RA⟩)
theorem s_setLcT {t : IT} {io : IO} {it : II} {own : List (Str × Nat)} {vs : List Nat} {elt iter : Expr} {ifs : List Expr} {scope : Scope} {y : Str} {py spos : Pos} (S : Sd G (wE E) C k X) (hcm : X.calm = true) (hy : X.N[i]? = some y) (hyl : X.env.scope.names.lookup y = some .local)
    (hsw : swapsWith (.ListComp elt [⟨tg, iter, ifs, 0⟩] scope pos) (some (.Name y py)) spos.line X.env = pure true)
    (ok : BlkOk X.N X.env.scope scope own) (hvs : vs = own.map (·.2)) (hi : PI X tg iter (RdI G (wE E) (evalI C it)))
    (hg : ∀ (s : Shared) (H : Hp) (Cc : Addr) (cl : List (Str × Addr)) (fp : List Addr), Sd G noW C k (X.blk s H scope (compEnvC scope cl Cc X.env) fp) → PG (X.blk s H scope (compEnvC scope cl Cc X.env) fp) tg (RdG G (IT.names t) (setT C t)))
    (ht : ∀ (s : Shared) (H : Hp) (Cc : Addr) (cl : List (Str × Addr)) (fp : List Addr), Sd G noW C k (X.blk s H scope (compEnvC scope cl Cc X.env) fp) → PTs (X.blk s H scope (compEnvC scope cl Cc X.env) fp) ifs (RdT G none noW (evalC C io)))
    (he : ∀ (s : Shared) (H : Hp) (Cc : Addr) (cl : List (Str × Addr)) (fp : List Addr), Sd G noW C k (X.blk s H scope (compEnvC scope cl Cc X.env) fp) → PE (X.blk s H scope (compEnvC scope cl Cc X.env) fp) elt (RE G none noW C ie))
    (hown : ((IT.names t).all fun j => vs.contains j) = true := by rfl) (hs : ∀ x, foldedSetIterable iter X.env x = pure x := by intro _; rfl) :
    PS X (.Assign [.Name y py] (.ListComp elt [⟨tg, iter, ifs, 0⟩] scope pos) spos) (RS G E C (.asg (.nm i) (.thaw (.lc ie vs t it io)))) := by
  subst hvs
  refine (ps_setLc hcm S.nd hy hyl hsw hi ok (fun s H Cc cl fp => hg s H Cc cl fp (S.blk ..)) (fun s H Cc cl fp => ht s H Cc cl fp (S.blk ..)) (fun s H Cc cl fp => he s H Cc cl fp (S.blk ..)) hs).of fun D σ H q => ?_
  obtain ⟨ρ, η, St, R, h⟩ := q
  refine lc_loop (Wx := wE E) true (fun j hj => by
    have := List.all_eq_true.mp hown j hj
    simpa using this) (thaw_lc (rdS1 (f := fun w S1 => (noExc (setT C (.nm i) w η S1)).bind fun η1 S2 => .ok (.nx η1) S2) R h fun w v ρ1 S1 H1 R1 e1 r1 h1 =>
    set_nm (D := D) ⟨ρ1, η, S1, w, R1, r1, (h1.bindN (W2 := noX)).mono fun η1 ρ2 S2 H2 _ _ ⟨e2, R2, h2⟩ σ' RA sb => h2.now R2 σ' RA⟩))
theorem s_par {j : Nat} {y : Str} {px py pt : Pos} {kt k2 pt2} {es : IEs} (S : Sd G (wE E) C k X) (hcm : X.calm = true) (hi : X.N[i]? = some x) (hj : X.N[j]? = some y) (ha : PA X [a, b] (REs G none (wE E) C es))
    (hx : X.env.scope.names.lookup x = some .local := by rfl) (hy : X.env.scope.names.lookup y = some .local := by rfl) (hij : i ≠ j := by decide)
    (hw : swappedStores [.Tuple [.Name x px, .Name y py] kt pt] (.Tuple [a, b] k2 pt2) X.env = pure (some [x, y]) := by rfl)
    (hs : swapsWithSole [.Tuple [.Name x px, .Name y py] kt pt] (.Tuple [a, b] k2 pt2) pos.line X.env = pure false := by rfl) :
    PS X (.Assign [.Tuple [.Name x px, .Name y py] kt pt] (.Tuple [a, b] k2 pt2) pos) (RS G E C (.par [i, j] es)) :=
  (ps_par hcm S.nd hi hj hij hx hy ha hw hs).of fun D σ H ⟨ρ, η, St, R, h⟩ => rd1s (Wx := wE E) (f := fun ws S1 => (ofO (setNs [i, j] ws η) S1).bind fun η1 S2 => Res.ok (Flow.nx η1) S2) R h fun ws vs ρ1 S1 H1 R1 e1 r1 h1 => by
    obtain ⟨η1, e, h2⟩ := h1.ofO_bind
    cases r1 with
    | nil => cases e
    | cons ra rb =>
      cases rb with
      | nil =>
        unfold setNs at e
        split at e <;> cases e
      | cons rb rc =>
        cases rc with
        | nil =>
          unfold setNs at e
          split at e
          · next h1 =>
            unfold setNs at e
            split at e
            · next h2' =>
              cases e
              exact ⟨_, _, rfl, h2.now R1.st _ ((R1.set ra h1).set rb h2')⟩
            · cases e
          · cases e
        | cons _ _ =>
          unfold setNs at e
          split at e
          · unfold setNs at e
            split at e <;> cases e
          · cases e
/-! ### loops -/
theorem s_while {body : List Stmt} {jb : ISs} (hp : PassesOwn (model X.prog X.w) X.A X.env X.xe) (hc : PT X c (RT G none (wE E) C ie)) (hb : PSs X body (RSs G E C jb)) : PS X (.While c body [] pos) (RS G E C (.whl ie jb)) :=
  (ps_while hp hc hb).of fun D σ H ⟨ρ, η, St, R, h⟩ => by
    replace h : Sat G E ρ St H (whileL (evalT C ie) (execSs C jb) C.fu η St) (FlowOk G none D) := h
    refine ⟨fun m σ H => ∃ ρ η S, RelAll G none ρ η S σ H ∧ Sat G E ρ S H (whileL (evalT C ie) (execSs C jb) m η S) (FlowOk G none D), ⟨C.fu, ρ, η, St, R, h⟩, ?_⟩
    rintro m σ H ⟨ρ, η, S, R, h⟩
    cases m with
    | zero => exact h.elim
    | succ m =>
      unfold whileL at h
      refine rd1t (Wx := wE E) (m := evalT C ie) R h fun z ρ1 S1 H1 R1 e1 h1 => ?_
      cases z with
      | false =>
        simp only [Bool.false_eq_true, if_false] at h1 ⊢
        exact h1.now R1.st σ R1
      | true =>
        simp only [if_true] at h1 ⊢
        refine ⟨fun σ H => ∃ ρ η S, RelAll G none ρ η S σ H ∧ Sat G E ρ S H (whileL (evalT C ie) (execSs C jb) m η S) (FlowOk G none D), fun σ' H' q => ⟨m, Nat.lt_succ_self _, q⟩, ρ1, η, S1, R1, h1.bind.mono fun f ρ2 S2 H2 _ _ ⟨e2, R2, h2⟩ => ?_⟩
        cases f with
        | nx η2 => exact fun σ2 RA => ⟨ρ2, η2, S2, RA, h2⟩
        | cont η2 => exact fun σ2 RA => ⟨ρ2, η2, S2, RA, h2⟩
        | brk η2 => exact fun σ2 RA => h2.now R2 σ2 RA
        | ret w => exact fun v r => h2.now R2 v r
theorem s_for {t : IT} {it : II} {iter : Expr} {body : List Stmt} {jb : ISs} (S : Sd G (wE E) C k X) (hcm : X.calm = true) (hp : PassesOwn (model X.prog X.w) X.A X.env X.xe) (hi : PI X tg iter (RdI G (wE E) (evalI C it))) (hg : PG X tg (RdG G (IT.names t) (setT C t))) (hb : PSs X body (RSs G E C jb))
    (hs : ∀ x, foldedSetIterable iter X.env x = pure x := by intro _; rfl) : PS X (.For tg iter body [] pos) (RS G E C (.for_ t it jb)) :=
  (ps_for hp hcm hi hg hb hs).of fun D σ H ⟨ρ, η, St, R, h⟩ => by
    replace h : Sat G E ρ St H ((evalI C it η St).bind fun src S1 => forSrc (setT C t) (execSs C jb) src η S1) (FlowOk G none D) := h
    refine ⟨ρ, η, St, R, h.bind.mono fun src ρ1 S1 H1 _ _ ⟨e1, R1, h1⟩ J hJ => ?_⟩
    have RA1 := R.mono e1 R1
    cases src with
    | fix xs =>
      refine ⟨fun i m σ H => m = xs.length - i ∧ i ≤ xs.length ∧ ∃ ρ η S, EK ρ1 S1 H1 ρ S H ∧ RelAll G none ρ η S σ H ∧ Sat G E ρ S H (forFix (setT C t) (execSs C jb) (xs.drop i) η S) (FlowOk G none D),
        ⟨_, rfl, Nat.zero_le _, ρ1, η, S1, Ext.refl.ek, RA1, h1⟩, ?_⟩
      rintro i m σ H ⟨rfl, hi, ρ, η, S, ek, R, h⟩
      by_cases hlt : i < xs.length
      · right
        refine ⟨hJ.go i ρ S H ek R.st hlt, fun σ H => ∃ ρ η S, EK ρ1 S1 H1 ρ S H ∧ RelAll G none ρ η S σ H ∧ Sat G E ρ S H (forFix (setT C t) (execSs C jb) (xs.drop (i + 1)) η S) (FlowOk G none D),
          fun σ' H' q => ⟨xs.length - (i + 1), by omega, rfl, hlt, q⟩, fun v H2 y => ?_⟩
        obtain ⟨e2, R2, rx⟩ := hJ.yld i xs[i] v ρ S H H2 ek R.st (List.getElem?_eq_getElem hlt) y
        rw [List.drop_eq_getElem_cons hlt] at h
        unfold forFix at h
        have RA2 := R.mono e2 R2
        refine ⟨ρ, η, S, .d xs[i], RA2, .d rx, ((Sat.from e2 h).bindN (W2 := noX)).mono fun η3 ρ3 S3 H3 _ _ ⟨e3, R3, h3⟩ σ3 RA3 sb => ?_⟩
        have ek3 : EK ρ1 S1 H1 ρ3 S3 H3 := (ek.ext e2).ext e3
        refine ⟨ρ3, η3, S3, RA3, h3.bind.mono fun f ρ4 S4 H4 _ _ ⟨e4, R4, h4⟩ => ?_⟩
        have ek4 := ek3.ext e4
        cases f with
        | nx η4 => exact fun σ4 RA4 => ⟨ρ4, η4, S4, ek4, RA4, h4⟩
        | cont η4 => exact fun σ4 RA4 => ⟨ρ4, η4, S4, ek4, RA4, h4⟩
        | brk η4 => exact fun σ4 RA4 => h4.now R4 σ4 RA4
        | ret w => exact fun v r => h4.now R4 v r
      · left
        have hi' : i = xs.length := by omega
        subst hi'
        rw [List.drop_length] at h
        exact ⟨hJ.stop ρ S H ek R.st, (show Sat G E ρ S H (.ok (.nx η) S) (FlowOk G none D) from h).now R.st σ R⟩
    | loc l n =>
      refine ⟨fun i m σ H => ∃ ρ η S, EK ρ1 S1 H1 ρ S H ∧ RelAll G none ρ η S σ H ∧ Sat G E ρ S H (forLoc (setT C t) (execSs C jb) l m i η S) (FlowOk G none D),
        ⟨n, ρ1, η, S1, Ext.refl.ek, RA1, h1⟩, ?_⟩
      rintro i m σ H ⟨ρ, η, S, ek, R, h⟩
      cases m with
      | zero =>
        left
        unfold forLoc at h
        split at h
        · next ys hc =>
          split at h
          · next hle => exact ⟨hJ.stop i ys ρ S H ek R.st hc hle, h.now R.st σ R⟩
          · exact h.elim
        · exact h.elim
      | succ m =>
        right
        unfold forLoc at h
        split at h
        · next ys hc =>
          split at h
          · next x hx =>
            refine ⟨hJ.go i ys x ρ S H ek R.st hc hx, fun σ H => ∃ ρ η S, EK ρ1 S1 H1 ρ S H ∧ RelAll G none ρ η S σ H ∧ Sat G E ρ S H (forLoc (setT C t) (execSs C jb) l m (i + 1) η S) (FlowOk G none D),
              fun σ' H' q => ⟨m, Nat.lt_succ_self _, q⟩, fun v H2 y => ?_⟩
            obtain ⟨e2, rx⟩ := hJ.yld i ys x v ρ S H H2 ek R.st hc hx y
            subst e2
            refine ⟨ρ, η, S, .d x, R, .d rx, (h.bindN (W2 := noX)).mono fun η3 ρ3 S3 H3 _ _ ⟨e3, R3, h3⟩ σ3 RA3 sb => ?_⟩
            have ek3 : EK ρ1 S1 H1 ρ3 S3 H3 := ek.ext e3
            refine ⟨ρ3, η3, S3, RA3, h3.bind.mono fun f ρ4 S4 H4 _ _ ⟨e4, R4, h4⟩ => ?_⟩
            have ek4 := ek3.ext e4
            cases f with
            | nx η4 => exact fun σ4 RA4 => ⟨ρ4, η4, S4, ek4, RA4, h4⟩
            | cont η4 => exact fun σ4 RA4 => ⟨ρ4, η4, S4, ek4, RA4, h4⟩
            | brk η4 => exact fun σ4 RA4 => h4.now R4 σ4 RA4
            | ret w => exact fun v r => h4.now R4 v r
          · exact h.elim
        · exact h.elim
end
end RI
/-! RI16: defs, by depth; what the head tells. -/
namespace RI
open PySem PySem.Spec PyProof.Rows L2

/-! ### a def's end -/
section
variable {G : Wd} {ρ ρ1 : Rho} {S S1 : Store} {H H1 : Hp} {E : XK} {keep : Bool} {Q : VK}
theorem RelX.mono {L L' : Addr → Prop} {fs : List (Nat × D)} {dx : Option Addr} (k : Kp L H L' H1) (h : RelX G L H fs dx) : RelX G L' H1 fs dx := by
  rcases h with h | ⟨d, vs, e, h, n, r⟩
  · exact .inl h
  · exact .inr ⟨d, vs, e, k.keep _ _ h fun z => absurd z n, k.out h n, r.mono k⟩
theorem freeze_ok {t : List Addr} {w w' : W} {v : V} (R : RelS G (ρ.app t) S1 H) (l : ρ.l.length = S.length) (hn : S.length ≤ S1.length) (r : RelW G none (Live (ρ.app t) S1) (ρ.app t) H w v) (e : freeze S.length w S1 = some w') :
    RelW G none (Live ρ (S1.take S.length)) ρ H w' v := by
  have k : Kp (Live (ρ.app t) S1) H (Live ρ (S1.take S.length)) H := kp_take hn l
  unfold freeze at e
  cases r with
  | d r => cases e; exact .d (r.mono k)
  | loc h =>
    dsimp only at e
    split at e
    · next hl =>
      cases e
      refine .loc ?_
      replace h : (ρ.l ++ t)[_]? = some _ := h
      rwa [List.getElem?_append_left (by rw [l]; exact hl)] at h
    · next hl =>
      rw [Option.map_eq_some_iff] at e
      obtain ⟨x, e, rfl⟩ := e
      rw [Option.bind_eq_some_iff] at e
      obtain ⟨c, hc, e⟩ := e
      refine .d ((R.cell _ _ _ hc h).data k e ?_)
      rintro (f | ⟨m, c', h1, h2, h3⟩)
      · exact (R.res _ f).2 (List.mem_of_getElem? h)
      · have hm := get_lt h3
        have := nd_inj R.nd (pre_get h3) h
        omega
  | scr h => cases e
  | exn h => cases h
theorem finish_ok (R : RelS G ρ S H) {r : Res Flow} (h : Sat G E ρ S H (finish keep S.length r) fun w ρ' S' H' => ∀ v, RelW G none (Live ρ' S') ρ' H' w v → Q v H') :
    Sat G E ρ S H r (FlowOk G none { nx := fun _ H' => Q .non H', rt := Q }) := by
  have cl : ∀ (w : W) (S' : Store), Sat G E ρ S H (close keep S.length w S') (fun w ρ' S' H' => ∀ v, RelW G none (Live ρ' S') ρ' H' w v → Q v H') → ∀ ρ' H', Ext ρ S H ρ' S' H' → RelS G ρ' S' H' → ∀ v, RelW G none (Live ρ' S') ρ' H' w v → Q v H' := by
    intro w S' h ρ' H' e R' v rv
    unfold close at h
    split at h
    · exact h ρ' H' e R' v rv
    · split at h
      · next hb =>
        split at h
        · next w' hw =>
          obtain ⟨t, et⟩ := e.pre
          subst et
          exact h ρ H' (e.trunc R.len hb.2) (R'.trunc R.len hb.2 hb.1) v (freeze_ok R' R.len hb.2 rv hw)
        · exact h.elim
      · exact h.elim
  cases r with
  | ok f S' =>
    cases f with
    | nx η => exact fun ρ' H' e R' σ _ => cl (.d .non) S' h ρ' H' e R' .non (.d .non)
    | ret w => exact fun ρ' H' e R' v rv => cl w S' h ρ' H' e R' v rv
    | brk η => exact h.elim
    | cont η => exact h.elim
  | exc c fs S' =>
    intro dx ρ' H' e R' x
    unfold finish at h
    dsimp only at h
    split at h
    · exact h dx ρ' H' e R' x
    · split at h
      · next hb =>
        obtain ⟨t, et⟩ := e.pre
        subst et
        exact h dx ρ H' (e.trunc R.len hb.2) (R'.trunc R.len hb.2 hb.1) (x.mono (kp_take hb.2 R.len))
      · exact h.elim
  | stk => exact h.elim
theorem start_rel {N : List Str} (R : RelS G ρ S H) {ws : List W} {vs : List V} (r : RelWs G none (Live ρ S) ρ H ws vs) : RelAll G none ρ (startE N.length ws) S (L2.start N vs) H := by
  have l := r.length
  refine ⟨R, by simp [startE, L2.start, l], fun i w h => ?_⟩
  unfold startE at h
  by_cases hi : i < ws.length
  · rw [List.getElem?_append_left (by simpa using hi), List.getElem?_map] at h
    cases hq : ws[i]? with
    | none => rw [hq] at h; cases h
    | some q =>
      rw [hq] at h
      cases h
      obtain ⟨v, hv, rv⟩ := r.get hq
      refine ⟨v, ?_, rv⟩
      unfold L2.start
      rw [List.getElem?_append_left (by simp; omega), List.getElem?_map, hv]
      rfl
  · rw [List.getElem?_append_right (by simpa using hi)] at h
    rw [List.getElem?_replicate] at h
    split at h <;> cases h
end
/-! ### what is known of the text, at any depth -/
structure Gf (G : Wd) (P : Prog) (K : PySem.W.Frag) (w : World) (mg : Str → Option Value) : Prop where
  hK : K = G.K
  fmg : ∀ f fd, P.fns[f]? = some fd → fd.top = true → mg fd.name = some (.ref (G.fa f))
  cmg : ∀ c d, P.cls[c]? = some d → mg d.name = some (.ref (G.ca c))
  bmg : ∀ x ∈ bltNames, mg x = none
  cst : ∀ (k : Nat) d x, P.consts[k]? = some d → P.cnm[k]? = some x → ∃ v u, mg x = some u ∧ RelV v u ∧ ∀ L H, RelD G L H d v
  tab : ∀ (i : Nat) T x, P.tabs[i]? = some T → P.tnm[i]? = some x → TabF G K w mg T x
  hex : ∀ c, G.exc c = excC P c
  clf : ∀ c, ordC P c = true → ClsF G K P c
  mkf : ∀ c d f, P.cls[c]? = some d → d.init = some f → Mk K (G.ca c) (G.fa f)
  eqm : ∀ c d f, P.cls[c]? = some d → lookN 0 d.meths = some f → EqF G K P c f ∧ ∃ fd, P.fns[f]? = some fd ∧ fd.np = 2
  mth : ∀ c d m f, P.cls[c]? = some d → ordC P c = true → (m, f) ∈ d.meths → Meth K (G.ca c) (G.nm m) (G.fa f)
  nmI : ∀ f g, G.nm f = G.nm g → f = g
  kit : ∀ t u, tyOk0 P t = true → tyOk P u = true → PySem.W.kitOne K (tyVal G t) (tyVal G u) = some (tyIs P t u)
/-- one def's text and its program in the small language -/
structure FnAll (P : Prog) (ns : List Str) (fd : FnD) (d : He.DefD) : Prop where
  body : ∀ (G : Wd), G.nm = nmOf ns → ∀ (Pm : Program) (w : World) (K : PySem.W.Frag) (mg : Str → Option Value) (base : Heap) (fa : Addr) (cdv : Value) (A : Around) (outer : List PySem.Env) (s : Shared) (H : Hp) (E : XK) (call : Nat → List W → Store → Res W) (fu k : Nat),
    Sd G (wE E) ⟨call, P, fu⟩ k (cxOf (L2.CX Pm w) Pm w K mg base fd.N d.qual d.scope fa cdv A outer s H E) → 1 ≤ k →
    PassesOwn (model Pm w) (cxOf (L2.CX Pm w) Pm w K mg base fd.N d.qual d.scope fa cdv A outer s H E).A (cxOf (L2.CX Pm w) Pm w K mg base fd.N d.qual d.scope fa cdv A outer s H E).env (cxOf (L2.CX Pm w) Pm w K mg base fd.N d.qual d.scope fa cdv A outer s H E).xe →
    PSs (cxOf (L2.CX Pm w) Pm w K mg base fd.N d.qual d.scope fa cdv A outer s H E) d.body (RSs G E ⟨call, P, fu⟩ fd.body)
  sc : FnScope fd.N (fd.N.take fd.np) d.scope
  bd : ∀ (kV doc pm : Value) (an : Option Addr) (cdv ct : Value) (us : List Value), us.length = (fd.N.take fd.np).length → bindArgs (PySem.W.fnOf d.name d.qual d.params d.body d.scope .none kV doc pm an cdv ct) ⟨us, []⟩ = pure ((fd.N.take fd.np).zip us)
  dfl : d.dfl = [] ∧ d.kwd = []
  le : fd.np ≤ fd.N.length
inductive AllF (P : Prog) (ns : List Str) : List FnD → List He.DefD → Prop where
  | nil : AllF P ns [] []
  | cons {fd : FnD} {d : He.DefD} {fds : List FnD} {ds : List He.DefD} : FnAll P ns fd d → AllF P ns fds ds → AllF P ns (fd :: fds) (d :: ds)
theorem AllF.get {P : Prog} {ns : List Str} {fds : List FnD} {ds : List He.DefD} (h : AllF P ns fds ds) : ∀ {f : Nat} {fd : FnD}, fds[f]? = some fd → ∃ d, ds[f]? = some d ∧ FnAll P ns fd d := by
  induction h with
  | nil => intro f fd e; simp at e
  | cons h hs ih =>
    intro f fd e
    cases f with
    | zero => simp at e; subst e; exact ⟨_, rfl, h⟩
    | succ f =>
      obtain ⟨d, e1, e2⟩ := ih (f := f) (fd := fd) (by simpa using e)
      exact ⟨d, by simpa using e1, e2⟩
theorem spF_len {G : Wd} {call : List W → Store → Res W} {np : Nat} {vs : List V} {H : Hp} {Q : VK} {E : XK} (h : spF G call np vs H Q E) : vs.length = np := by
  obtain ⟨ρ, S, ws, R, r, l, _⟩ := h
  rw [← r.length, l]
/-- the addresses of the text's defs are those that the head tells of -/
def FaOk (G : Wd) (K : PySem.W.Frag) (ds : List He.DefD) : Prop := ∀ f d, ds[f]? = some d → G.fa f = He.fAd K d.at_
theorem fn_all {G : Wd} {P : Prog} {Pm : Program} {w : World} {K : PySem.W.Frag} {mg : Str → Option Value} {base : Heap} {ds : List He.DefD} {fu : Nat} {ns : List Str} (g : Gf G P K w mg) (hnm : G.nm = nmOf ns) (A : AllF P ns P.fns ds) (fa : FaOk G K ds)
    (dd : ∀ d ∈ ds, ∃ fd, FunD K d.name d.qual d.params d.body d.scope (d.dvs K) (d.kws K) (He.fAd K d.at_) fd)
    (xf : ∀ c d fs, P.cls[c]? = some d → d.exc = some fs → ExF G Pm w K mg base P c fs) :
    ∀ (n f : Nat) (fd : FnD) (d : He.DefD) (fdat : FuncData), P.fns[f]? = some fd → ds[f]? = some d → FnAll P ns fd d → FunD K d.name d.qual d.params d.body d.scope [] [] (He.fAd K d.at_) fdat →
      FnG Pm w K mg base (L2.CX Pm w) (2 * n + 2) (G.fa f) fdat (fd.N.take fd.np) (spF G (callF P fu n f) fd.np) := by
  intro n
  induction n with
  | zero =>
    intro f fd d fdat hf hd F FD
    have lp : (fd.N.take fd.np).length = fd.np := by
      rw [List.length_take]
      exact Nat.min_eq_left F.le
    refine ⟨fun vs H Q E h => by rw [lp]; exact spF_len h, fun A outer s H args us vs Q E gd hr e0 hb rv h => ?_⟩
    obtain ⟨ρ, S, ws, R, r, l, hs⟩ := h
    exact hs.elim
  | succ n ih =>
    intro f fd d fdat hf hd F FD
    have lp : (fd.N.take fd.np).length = fd.np := by
      rw [List.length_take]
      exact Nat.min_eq_left F.le
    rw [fa f d hd]
    show FnG Pm w K mg base (L2.CX Pm w) (2 * n + 2 + 1 + 1) _ _ _ _
    refine okG FD F.sc (fun vs H Q E h => by rw [lp]; exact spF_len h) fun cdv A0 outer s H vs Q E gd hr h => ?_
    have S : Sd G (wE E) ⟨callF P fu n, P, fu⟩ (2 * n + 2) (cxOf (L2.CX Pm w) Pm w K mg base fd.N d.qual d.scope (He.fAd K d.at_) cdv A0 outer s H E) :=
      { hK := g.hK, nd := F.sc.nd, tk := takes_of rfl rfl rfl rfl, un := Nat.lt_of_le_of_lt (Nat.le_trans (Nat.add_le_add_left (by decide : 66 ≤ 200) _) (Nat.add_le_add_right (Nat.le_add_right _ _) _)) hr.un, room := fun _ => hr, gd := gd_deeper gd, fok := fun f' fd' h' => ?_, fmg := g.fmg, cmg := g.cmg, bmg := g.bmg, cst := g.cst, tab := g.tab, mth := g.mth, hex := g.hex, clf := g.clf, exf := xf, mkf := g.mkf, eqm := g.eqm, nmI := g.nmI, kit := g.kit }
    · refine ⟨_, F.body G hnm Pm w K mg base _ cdv A0 outer s H E (callF P fu n) fu (2 * n + 2) S (Nat.le_add_left 1 (2 * n + 1)) (passes_of rfl), ?_⟩
      obtain ⟨ρ, St, ws, R, r, l, hs⟩ := h
      refine ⟨ρ, startE fd.N.length ws, St, start_rel R r, ?_⟩
      replace hs : Sat G E ρ St H (match P.fns[f]? with
        | some fd => if ws.length = fd.np then finish fd.keep St.length (execSs ⟨callF P fu n, P, fu⟩ fd.body (startE fd.N.length ws) St) else .stk
        | none => .stk) _ := hs
      rw [hf] at hs
      dsimp only at hs
      rw [if_pos l] at hs
      exact finish_ok R hs
    · obtain ⟨d', hd', F'⟩ := A.get h'
      obtain ⟨fdat', FD'⟩ := dd d' (List.mem_of_getElem? hd')
      have e1 : d'.dvs K = [] := by unfold He.DefD.dvs; rw [F'.dfl.1]; rfl
      have e2 : d'.kws K = [] := by unfold He.DefD.kws; rw [F'.dfl.2]; rfl
      rw [e1, e2] at FD'
      refine ⟨⟨fdat', _, ?_, ih f' fd' d' fdat' h' hd' F' FD', FD'.bindsN F'.bd⟩, ?_⟩
      · rw [List.length_take]
        exact Nat.min_eq_left F'.le
      · rw [fa f' d' hd']
        exact FD'.kp
/-! ### the facts, by one Bool over what the head leaves -/
section
variable (K : PySem.W.Frag)
end
mutual
theorem cB_ok {G : Wd} : ∀ {d : D} {u : Value}, cB G.K d u = true → ∃ v, RelV v u ∧ ∀ L H, RelD G L H d v
  | .non, u, h => by
    cases u <;> first | exact ⟨.non, rfl, fun _ _ => .non⟩ | cases h
  | .bl b, u, h => by
    cases u <;> first | cases h | skip
    rename_i c
    have h : (b == c) = true := h
    rw [beq_iff_eq] at h; subst h; exact ⟨.bl b, rfl, fun _ _ => .bl b⟩
  | .int i, u, h => by
    cases u <;> first | cases h | skip
    have h := of_decide_eq_true h; subst h; exact ⟨.int i, ⟨_, rfl⟩, fun _ _ => .int i⟩
  | .str x, u, h => by
    cases u <;> first | cases h | skip
    have h := of_decide_eq_true h; subst h; exact ⟨.str (Str' x), ⟨_, rfl⟩, fun _ _ => .str x⟩
  | .tup xs, u, h => by
    cases u <;> first | cases h | skip
    rename_i a
    unfold cB at h
    split at h
    · next c its sl n' hl =>
      rw [Bool.and_eq_true, Bool.and_eq_true] at h
      obtain ⟨h1, h2, h3⟩ := h
      obtain ⟨vs, hv, hr⟩ := cBs_ok (G := G) (ds := xs) h3
      have h1 := of_decide_eq_true h1
      have h2 := of_decide_eq_true h2
      subst h1
      exact ⟨.ref a, rfl, fun L H => .tup (.inr ⟨_, _, _, hl, rfl, rfl, h2, hv, rfl⟩) (hr L H)⟩
    · cases h
  | .lst xs, u, h => by cases u <;> cases h
  | .dic xs, u, h => by cases u <;> cases h
  | .obj c fs, u, h => by cases u <;> cases h
  | .fn f, u, h => by cases u <;> cases h
theorem cBs_ok {G : Wd} : ∀ {ds : List D} {us : List Value}, cBs G.K ds us = true → ∃ vs, Vals vs us ∧ ∀ L H, RelDs G L H ds vs
  | [], [], _ => ⟨[], .nil, fun _ _ => .nil⟩
  | d :: ds, u :: us, h => by
    have h : (cB G.K d u && cBs G.K ds us) = true := h
    rw [Bool.and_eq_true] at h
    obtain ⟨v, r, hd⟩ := cB_ok (G := G) (d := d) h.1
    obtain ⟨vs, rs, hds⟩ := cBs_ok (G := G) (ds := ds) h.2
    exact ⟨v :: vs, .cons r rs, fun L H => .cons (hd L H) (hds L H)⟩
  | [], u :: us, h => by cases h
  | d :: ds, [], h => by cases h
end
def nmOk (ns : List Str) : Bool := decide ns.Nodup && ns.all fun x => x.cps.toList.head? != some 35
theorem nmOf_inj {ns : List Str} (h : nmOk ns = true) (f g : Nat) (e : nmOf ns f = nmOf ns g) : f = g := by
  unfold nmOk at h
  rw [Bool.and_eq_true] at h
  obtain ⟨h1, h2⟩ := h
  have h1 := of_decide_eq_true h1
  have out : ∀ k, ns.length ≤ k → nmOf ns k = Str' (35 :: List.replicate k 35) := fun k hk => by
    unfold nmOf
    rw [List.getD_eq_getElem?_getD, List.getElem?_eq_none hk]; rfl
  have inn : ∀ k (hk : k < ns.length), nmOf ns k = ns[k] := fun k hk => by
    unfold nmOf
    rw [List.getD_eq_getElem?_getD, List.getElem?_eq_getElem hk]; rfl
  have no : ∀ k (hk : k < ns.length) m, ns[k] ≠ Str' (35 :: List.replicate m 35) := fun k hk m z => by
    have := List.all_eq_true.mp h2 _ (List.getElem_mem hk)
    rw [z] at this
    simp at this
  by_cases hf : f < ns.length
  · by_cases hg : g < ns.length
    · rw [inn f hf, inn g hg] at e
      exact (List.getElem_inj h1).mp e
    · rw [inn f hf, out g (by omega)] at e
      exact (no f hf g e).elim
  · by_cases hg : g < ns.length
    · rw [out f (by omega), inn g hg] at e
      exact (no g hg f e.symm).elim
    · rw [out f (by omega), out g (by omega)] at e
      have e := str_inj e
      simpa using congrArg List.length e
section
variable (P : Prog) (ds : List He.DefD) (ns : List Str) (K : PySem.W.Frag)
end
theorem ns_at {K : PySem.W.Frag} {h : Heap} {mg : Str → Option Value} (X : K.In h) (G : h.Ns mainGlobals mg) {x : Str} {u : Option Value} (c : PySem.W.nsIn K mainGlobals x = some u) : mg x = u := by
  cases u with
  | none => exact PySem.W.mg_none_of X G c
  | some u => exact PySem.W.mg_of X G c
theorem gf_of {P : Prog} {ds : List He.DefD} {ns : List Str} {K : PySem.W.Frag} {w : World} {h : Heap} {mg : Str → Option Value} (hts : ∀ (i : Nat) T x, P.tabs[i]? = some T → P.tnm[i]? = some x → TabF (wdOf P ds ns K) K w mg T x) (X : K.In h) (G : h.Ns mainGlobals mg) (hn : nmOk ns = true) (hl : P.cnm.length = P.consts.length) (c : ex P ds ns K = true) : Gf (wdOf P ds ns K) P K w mg := by
  unfold ex at c
  simp only [Bool.and_eq_true] at c
  obtain ⟨⟨⟨⟨⟨c1, c2⟩, c3, c4⟩, c5, c6⟩, c8⟩, c7⟩ := c
  have at_ : ∀ {x : Str} {u : Option Value}, atN K x u = true → mg x = u := fun h => ns_at X G (He.eqO_ok h)
  have cls : ∀ c, ordC P c = true → c ∈ ordCs P := fun c hc => by
    unfold ordCs
    rw [List.mem_filter, List.mem_range]
    refine ⟨?_, hc⟩
    unfold ordC at hc
    split at hc
    · next e => exact (List.getElem?_eq_some_iff.mp e).1
    · cases hc
  have zi : ∀ {α : Type} {xs : List α} {i : Nat} {x : α}, xs[i]? = some x → (x, i) ∈ xs.zipIdx := fun e => by
    rw [List.mem_zipIdx_iff_getElem?]
    exact e
  have tys : ∀ t, tyOk0 P t = true → t ∈ tys0 P := fun t h => by
    unfold tys0
    cases t with
    | cls c => exact List.mem_append_right _ (List.mem_map.mpr ⟨c, cls c h, rfl⟩)
    | valueError => cases h
    | _ => exact List.mem_append_left _ (by simp)
  have tys' : ∀ t, tyOk P t = true → t ∈ tys1 P := fun t h => by
    unfold tys1
    cases t with
    | cls c => exact List.mem_append_right _ (List.mem_map.mpr ⟨c, cls c h, rfl⟩)
    | valueError => cases h
    | none => cases h
    | dict => cases h
    | _ => exact List.mem_append_left _ (by simp)
  refine { hK := rfl, fmg := fun f fd h1 h2 => ?_, cmg := fun c d h1 => at_ (List.all_eq_true.mp c2 _ (zi h1)), bmg := fun x h => at_ (List.all_eq_true.mp c3 x h), cst := fun k d x h1 h2 => ?_, tab := hts, mth := fun c d m f h1 ho hm => (by
    have := List.all_eq_true.mp c8 _ (zi h1)
    rw [ho] at this
    have := List.all_eq_true.mp (show mthB P ds ns K c d.meths = true from this) _ hm
    simp only [Bool.and_eq_true] at this
    exact ⟨He.eqO_ok this.1, this.2.1, this.2.2⟩), hex := fun _ => rfl, clf := fun c hc => ?_, mkf := fun c d f h1 h2 => ?_, eqm := fun c d f h1 h2 => ?_, nmI := nmOf_inj hn, kit := fun t u ht hu => of_decide_eq_true (List.all_eq_true.mp (List.all_eq_true.mp c7 t (tys t ht)) u (tys' u hu)) }
  · have := List.all_eq_true.mp c1 _ (zi h1)
    rw [h2] at this
    exact at_ (by simpa using this)
  · have hm : (d, x) ∈ P.consts.zip P.cnm := List.mem_of_getElem? (i := k) (List.getElem?_zip_eq_some.mpr ⟨h1, h2⟩)
    have := List.all_eq_true.mp c4 _ hm
    dsimp only at this
    split at this
    · next u e =>
      obtain ⟨v, r, hr⟩ := cB_ok (G := wdOf P ds ns K) this
      exact ⟨v, u, ns_at X G e, r, hr⟩
    · cases this
  · have := List.all_eq_true.mp c5 c (cls c hc)
    unfold clsB at this
    simp only [Bool.and_eq_true] at this
    obtain ⟨⟨a1, a2, a3, a4⟩, a5, a6, a7, a8, a9, a10⟩ := this
    exact { cls := ⟨a1, a2, a3, He.eqO_ok a4⟩, kp := a5, ha := He.eqO_ok a6, hn := He.eqO_ok a7, htk := of_decide_eq_true a8, hm := of_decide_eq_true a9, na := fun f hf => He.eqO_ok (List.all_eq_true.mp a10 f hf) }
  · have := List.all_eq_true.mp c6 _ (zi h1)
    rw [Bool.and_eq_true] at this
    have := this.1
    dsimp only at this
    rw [h2] at this
    dsimp only at this
    unfold mkB at this
    simp only [Bool.and_eq_true] at this
    exact ⟨this.1, He.eqO_ok this.2.1, this.2.2.1, this.2.2.2⟩
  · have := List.all_eq_true.mp c6 _ (zi h1)
    rw [Bool.and_eq_true] at this
    have := this.2
    dsimp only at this
    rw [h2] at this
    dsimp only at this
    unfold eqB at this
    simp only [Bool.and_eq_true] at this
    obtain ⟨a0, a1, a2, a3, ⟨a6, a7⟩, a4, a5, a8⟩ := this
    refine ⟨⟨He.eqO_ok a1, He.eqO_ok a2, a3, of_decide_eq_true a6, of_decide_eq_true a7, of_decide_eq_true a4, a0, fun c' hs hne => ?_⟩, ?_⟩
    · unfold supC at hs
      split at hs
      · next k ek =>
        rw [ek] at a8
        dsimp only at a8
        have := List.all_eq_true.mp a8 c' (by simpa using hs)
        rw [Bool.or_eq_true] at this
        rcases this with this | this
        · exact absurd (of_decide_eq_true this) hne
        · exact of_decide_eq_true this
      · cases hs
    split at a5
    · next fd e => exact ⟨fd, e, of_decide_eq_true a5⟩
    · cases a5
end RI
/-! RI18: the rules as a printed proof takes them: all side conditions by rfl. -/
namespace RI
open PySem PySem.Spec PyProof.Rows L2
def visB (sc : Scope) (x : Str) : Bool := match sc.names.lookup x with
  | some .local => true
  | some .cell => true
  | some .free => true
  | _ => false
theorem vis_of {sc : Scope} {x : Str} (h : visB sc x = true) : Vis sc x := by
  unfold visB at h
  split at h
  · next e => exact .inl e
  · next e => exact .inr (.inl e)
  · next e => exact .inr (.inr e)
  · cases h
def locB (sc : Scope) (x : Str) : Bool := match sc.names.lookup x with
  | some .local => true
  | some .cell => true
  | _ => false
theorem loc_of {sc : Scope} {x : Str} (h : locB sc x = true) : Loc sc x := by
  unfold locB at h
  split at h
  · next e => exact .inl e
  · next e => exact .inr e
  · cases h
def isLocB (sc : Scope) (x : Str) : Bool := match sc.names.lookup x with
  | some .local => true
  | _ => false
theorem isLoc_of {sc : Scope} {x : Str} (h : isLocB sc x = true) : sc.names.lookup x = some .local := by
  unfold isLocB at h
  split at h
  · next e => exact e
  · cases h
def noDunder (x : Str) : Bool := !(x == ("__debug__" : Str)) && !(x == ("__classdict__" : Str))
theorem nd1 {x : Str} (h : noDunder x = true) : (x == ("__debug__" : Str)) = false := by
  unfold noDunder at h
  rw [Bool.and_eq_true] at h
  simpa using h.1
theorem nd2 {x : Str} (h : noDunder x = true) : (x == ("__classdict__" : Str)) = false := by
  unfold noDunder at h
  rw [Bool.and_eq_true] at h
  simpa using h.2
section
variable {G : Wd} {ex : Ex} {Wx : L2.WX} {C : Ctx} {k : Nat} {X : Cx} {pos p p2 apos : Pos} {x : Str} {i : Nat} {a b c e o : Expr} {ia ib ic io ie : IE} {es : List Expr} {ies : IEs} {fd : FnD}
theorem q_var (hN : X.N[i]? = some x) (hv : visB X.env.scope x = true) (hd : noDunder x = true) : PE X (.Name x pos) (RE G ex Wx C (.var i)) := e_var hN (vis_of hv) (nd1 hd) (nd2 hd)
theorem q_nm (S : Sd G Wx C k X) (hi : X.N[i]? = some x) (hx : locB X.env.scope x = true) (hf : (X.fn x || isLocB X.env.scope x) = true) : PG X (.Name x pos) (RdG G (IT.names (.nm i)) (setT C (.nm i))) :=
  g_nm S hi (loc_of hx) (by
    rcases Bool.or_eq_true_iff.mp hf with h | h
    · exact .inl h
    · exact .inr (isLoc_of h))
theorem q_set {E : XK} {pos' : Pos} (S : Sd G (wE E) C k X) (hi : X.N[i]? = some x) (hx : locB X.env.scope x = true) (hf : (X.fn x || isLocB X.env.scope x) = true) (he : PE X e (RE G ex (wE E) C ie)) (hs : swapsWith e (some (.Name x pos')) pos.line X.env = pure false) :
    PS X (.Assign [.Name x pos'] e pos) (RSx G ex E C (.asg (.nm i) ie)) :=
  s_set S hi (loc_of hx) he hs (by
    rcases Bool.or_eq_true_iff.mp hf with h | h
    · exact .inl h
    · exact .inr (isLoc_of h))
theorem q_callv (S : Sd G Wx C k X) (hcm : X.calm = true) (hN : X.N[i]? = some x) (hv : visB X.env.scope x = true) (hd : noDunder x = true) (ha : PA X (e :: es) (REs G none Wx C ies))
    (he : starEach (e :: es) X.env = (false, eval e X.env) :: starEach es X.env := by rfl) (hpl : (backTo pos (starEach es X.env)).any (·.1) = false := by rfl) : PE X (.Call (.Name x p) (e :: es) [] pos) (RE G none Wx C (.callv i ies)) :=
  e_callv S hcm hN (vis_of hv) ha (nd1 hd) (nd2 hd) he hpl
theorem RelFw.len {L : Addr → Prop} {ρ : Rho} {H : Hp} : ∀ {fs : List (Nat × W)} {vs : List (Str × V)}, RelFw G L ρ H fs vs → fs.length = vs.length
  | _, _, .nil => rfl
  | _, _, .cons _ h => congrArg (· + 1) (RelFw.len h)
theorem RelFw.put {L : Addr → Prop} {ρ : Rho} {H : Hp} {f : Nat} {w : W} {v : V} (hI : ∀ f g, G.nm f = G.nm g → f = g) (r : RelW G none L ρ H w v) : ∀ {fs : List (Nat × W)} {vs : List (Str × V)}, RelFw G L ρ H fs vs → RelFw G L ρ H (putN f w fs) (putF (G.nm f) v vs)
  | _, _, .nil => .cons r .nil
  | _, _, .cons (f := g) h hs => by
    unfold putN putF
    by_cases q : g = f
    · subst q
      rw [if_pos rfl, if_pos rfl]
      exact .cons r hs
    · rw [if_neg q, if_neg fun z => q (hI _ _ z)]
      exact .cons h (RelFw.put hI r hs)
theorem q_fld {f : Nat} {n : Str} {ns : List Str} (S : Sd G Wx C k X) (hf : C.P.flds.contains f = true) (hnm : G.nm = nmOf ns) (hn : nmOf ns f = n) (ho : PE X o (RE G none Wx C io)) (hb : attributeBase o n X.env (eval o X.env) = eval o X.env := by rfl) : PE X (.Attribute o n pos) (RE G none Wx C (.fld io f)) :=
  e_fld S hf (by rw [hnm]; exact hn) ho hb
theorem s_fld {E : XK} {f : Nat} {n : Str} {ns : List Str} {pos' : Pos} (S : Sd G (wE E) C k X) (hf : C.P.flds.contains f = true) (hnm : G.nm = nmOf ns) (hn : nmOf ns f = n) (ho : PE X o (RE G none (wE E) C io)) (he : PE X e (RE G none (wE E) C ie)) (hs : swapsWith e (some (.Attribute o n pos')) pos.line X.env = pure false := by rfl) :
    PS X (.Assign [.Attribute o n pos'] e pos) (RS G E C (.asg (.fld io f) ie)) := by
  have hn : G.nm f = n := by rw [hnm]; exact hn
  subst hn
  exact (ps_fld ho he hs).of fun D σ H ⟨ρ, η, St, R, h⟩ => rdS1 (f := fun w S1 => (noExc (setT C (.fld io f) w η S1)).bind fun η1 S2 => .ok (.nx η1) S2) R h fun w v ρ1 S1 H1 R1 e1 r1 h1 => by
    replace h1 : Sat G E ρ1 S1 H1 ((noExc (((evalP C io).1 η S1).bind fun x S1 => (setFld C.P x f w S1).bind fun _ S2 => .ok η S2)).bind fun η1 S2 => .ok (Flow.nx η1) S2) (FlowOk G none D) := h1
    rw [noExc_bind, Res.bind_assoc] at h1
    refine ⟨ρ1, η, S1, R1, Sat.nx (W1 := noX) (h1.bindN.mono fun wo ρ2 S2 H2 _ _ ⟨e2, R2, h2⟩ vo ro => ?_)⟩
    have RA2 := R1.mono e2 R2
    unfold setFld at h2
    cases ro with
    | loc hl =>
      dsimp only at h2
      split at h2
      · next c fs hc =>
        split at h2
        · next hq =>
          cases R2.cell _ _ _ hc hl with
          | ins hxx hH hfs =>
            rename_i dx vs
            have al : alive (.ins c fs) = true := rfl
            have rw' := r1.mono e2.kp e2.pre
            have e3 := Ext.setCell (c' := .ins c (putN f w fs)) (o := .ins (G.ca c) dx (putF (G.nm f) v vs)) R2 hc al hl
            have R3 := R2.setCell (c' := .ins c (putN f w fs)) (o := .ins (G.ca c) dx (putF (G.nm f) v vs)) hc al hl (.ins hxx (upd_same ..) (RelFw.put S.nmI (rw'.mono e3.kp e3.pre) (hfs.mono e3.kp e3.pre)))
            have hfm : f ∈ C.P.flds := by simpa using hf
            have hlen : vs.length < 1000 := by
              rw [← hfs.len]
              omega
            exact ⟨_, G.ca c, dx, vs, rfl, hH, (S.clf _ hq.2).cls, (S.clf _ hq.2).na f hfm, hlen, (fl (f := .nx η) (E := E) R3 (Sat.from e3 h2)) σ (RA2.mono e3 R3)⟩
        · exact h2.elim
      · exact h2.elim
    | _ => exact h2.elim
end
end RI
/-! RI19: errors raised, caught. -/
namespace RI
open PySem PySem.Spec PyProof.Rows L2
section
variable {G : Wd} {ex : Ex} {Wx : L2.WX} {C : Ctx} {k : Nat} {X : Cx} {pos p p2 apos tpos pos' : Pos} {x : Str} {i : Nat} {a b c e o : Expr} {ia ib ic io ie : IE} {es : List Expr} {ies : IEs} {fd : FnD} {E : XK}
/-! ### the facts in a try's body, in a suite -/
theorem Sd.tr (S : Sd G Wx C k X) {W' : L2.WX} (pn : List (Addr × Obj)) (xe : Value → Shared → Prop) (tk : L2.Takes (X.tr pn xe) W') : Sd G W' C k (X.tr pn xe) :=
  { hK := S.hK, nd := S.nd, tk := tk, un := S.un, room := S.room, gd := S.gd, fok := fun f fd h => ⟨(S.fok f fd h).ex, (S.fok f fd h).kp⟩, fmg := S.fmg, cmg := S.cmg, bmg := S.bmg, cst := S.cst, tab := S.tab, mth := S.mth, hex := S.hex, clf := S.clf, mkf := S.mkf, eqm := S.eqm, exf := S.exf, nmI := S.nmI, kit := S.kit }
theorem Sd.suite (S : Sd G Wx C k X) (a : Addr) (pn : List (Addr × Obj)) : Sd G noW C k (X.suite a pn) :=
  { hK := S.hK, nd := S.nd, tk := takes0, un := S.un, room := fun h => (by cases h), gd := S.gd, fok := fun f fd h => ⟨(S.fok f fd h).ex, (S.fok f fd h).kp⟩, fmg := S.fmg, cmg := S.cmg, bmg := S.bmg, cst := S.cst, tab := S.tab, mth := S.mth, hex := S.hex, clf := S.clf, mkf := S.mkf, eqm := S.eqm, exf := S.exf, nmI := S.nmI, kit := S.kit }

/-! ### raise -/
/-- X() -/
theorem pmk_own0 {Ca : Addr} {bmB : List Value} {B newId initId : String} (F : ExcBaseFacts B newId initId bmB) (q : PySem.W.excIn X.K Ca bmB newId = true) (gC : X.mg x = some (.ref Ca)) (kC : PySem.W.keepIn X.K (.ref Ca) = true) (r : Raises X (.ref Ca)) (hg : Gl X x)
    (hdb : (x == ("__debug__" : Str)) = false := by decide) : PMk X (.Call (.Name x p) [] [] pos) (fun _ H Q => Q (.ref Ca) none H) := by
  intro pins s σ H Q I h
  refine wpAny_Call_Name_kw (ld_glob I hg gC ?_ hdb)
  refine PySem.W.callWith_K0 I.kIn kC ?_
  obtain ⟨bm, N, nm, qn, bs, hdct, sn, sub, ab, col, dd, k0, k1, k2, k3, k5, mN, hC, hN, hni, T⟩ := exc_obj I.kIn q
  show wpAny _ _ (call (.ref Ca) []) _ _ _
  refine wpAny_call_exc_subT F T hC hN hni (fun h' e hm => ?_) (Nat.zero_le _)
  exact mk_of I hm r h (I.hok.gone hm.new)
theorem fieldsOf_nil {ws : List W} {ds : List (Nat × D)} (h : fieldsOf [] ws = some ds) : ws = [] ∧ ds = [] := by
  cases ws with
  | nil => unfold fieldsOf at h; cases h; exact ⟨rfl, rfl⟩
  | cons w ws => unfold fieldsOf at h; cases h
theorem fieldsOf_one {f : Nat} {ws : List W} {ds : List (Nat × D)} (h : fieldsOf [f] ws = some ds) : ∃ d, ws = [.d d] ∧ ds = [(f, d)] := by
  cases ws with
  | nil => unfold fieldsOf at h; cases h
  | cons w ws =>
    cases w with
    | d d =>
      unfold fieldsOf at h
      cases h2 : fieldsOf [] ws with
      | none => rw [h2] at h; cases h
      | some e =>
        obtain ⟨rfl, rfl⟩ := fieldsOf_nil h2
        rw [h2] at h
        cases h
        exact ⟨d, rfl, rfl⟩
    | _ => unfold fieldsOf at h; cases h
/-- raise X() -/
theorem s_raise0 {cd : ClD} (S : Sd G (wE E) C k X) (hcm : X.calm = true) (hg : Gl X x) (h1 : C.P.cls[i]? = some cd) (hn : cd.name = x) (hx : cd.exc = some []) (hdb : (x == ("__debug__" : Str)) = false := by decide) :
    PS X (.Raise (some (.Call (.Name x p) [] [] pos)) none tpos) (RS G E C (.raise i .nil)) := by
  subst hn
  have T := S.exf i cd [] h1 hx
  refine (ps_raise hcm S.tk (pmk_own0 PySem.F.excBase_ValueError (T.own rfl) (S.cmg i cd h1) T.kC (raises_own T.cl.hs T.tyC) hg hdb)).of fun D σ H ⟨ρ, η, St, R, h⟩ => ?_
  replace h : Sat G E ρ St H (match C.P.cls[i]? with
    | some k => match k.exc with
      | some fs => match fieldsOf fs [] with
        | some ds => .exc i ds St
        | none => .stk
      | none => .stk
    | none => .stk) (FlowOk G none D) := h
  rw [h1] at h
  dsimp only at h
  rw [hx] at h
  exact h none ρ H .refl R.st (.inl ⟨rfl, rfl⟩)
theorem newXd {ρ : Rho} {S : Store} {H : Hp} {p : Addr} {n : Nat} {x : D} {v : V} (R : RelS G ρ S H) (hp : H p = none) (r : RelD G (Live ρ S) H x v) :
    RelX G (Live ρ S) (upd H p (.xd [(G.nm n, v)])) [(n, x)] (some p) :=
  .inr ⟨p, _, rfl, upd_same .., R.fresh hp, .cons (r.mono (Ext.newObj (ρ := ρ) (S := S) hp).kp) .nil⟩
/-- raise X(e) -/
theorem s_raise1 {cd : ClD} {f : Nat} (S : Sd G (wE E) C k X) (hcm : X.calm = true) (hk : 1 ≤ k) (hg : Gl X x) (h1 : C.P.cls[i]? = some cd) (hn : cd.name = x) (hx : cd.exc = some [f]) (ha : PA X [e] (REs G none (wE E) C ies)) (hl : ies.len = 1 := by rfl) (hdb : (x == ("__debug__" : Str)) = false := by decide)
    (he : starEach [e] X.env = (false, eval e X.env) :: starEach [] X.env := by rfl) (hpl : (backTo pos (starEach [] X.env)).any (·.1) = false := by rfl) :
    PS X (.Raise (some (.Call (.Name x p) [e] [] pos)) none tpos) (RS G E C (.raise i ies)) := by
  subst hn
  have T := S.exf i cd [f] h1 hx
  obtain ⟨O, fI, fdat, ps, iC, tI, F, hb⟩ := T.ini f rfl
  refine (ps_raise hcm S.tk (pmk_oex O iC tI F ((S.room hcm).mono (by omega)) hb .nil (fun _ _ _ _ _ _ _ h => h.elim) hg (S.cmg i cd h1) ha hdb he hpl)).of fun D σ H ⟨ρ, η, St, R, h⟩ => ?_
  refine rd1n (Wx := wE E) (f := fun ws S1 => match C.P.cls[i]? with
    | some k => match k.exc with
      | some fs => match fieldsOf fs ws with
        | some ds => .exc i ds S1
        | none => .stk
      | none => .stk
    | none => .stk) R h fun ws vs ρ1 S1 H1 R1 e1 r1 l1 h2 => ?_
  rw [h1] at h2
  dsimp only at h2
  rw [hx] at h2
  dsimp only at h2
  split at h2
  · next ds hf =>
    obtain ⟨d, rfl, rfl⟩ := fieldsOf_one hf
    obtain ⟨v, rfl, rv⟩ := r1.one
    refine ⟨by simp, fun a hna => ⟨a, v, rfl, upd_same .., fun dx hdx hne => ⟨rfl, dx, [(G.nm f, v)], upd_same .., ?_, ?_, ?_⟩⟩⟩
    · rw [upd_ne hne]; exact upd_same ..
    · rw [← hdx, upd_ne hne]
    · have hnx : H1 dx = none := by rw [← hdx, upd_ne hne]
      have eq : upd (del (upd (upd (upd H1 a (exo a (G.ca i) none)) dx (exd dx [(G.nm f, v)])) a (exo a (G.ca i) (some dx))) a) dx (.xd [(G.nm f, v)]) = upd H1 dx (.xd [(G.nm f, v)]) := by
        funext b
        by_cases hb : b = dx
        · subst hb; rw [upd_same, upd_same]
        · rw [upd_ne hb, upd_ne hb]
          by_cases ha : b = a
          · subst ha; rw [del_same, hna]
          · rw [del_ne ha, upd_ne ha, upd_ne hb, upd_ne ha]
      rw [eq]
      exact h2 (some dx) ρ1 _ (Ext.newObj hnx) (R1.st.newObj hnx) (newXd R1.st hnx rv.d_inv)
  · exact h2.elim

/-! ### a try's body -/
def RB (G : Wd) (W' : L2.WX) (m : Env → Store → Res Flow) : TS := fun D σ H => ∃ ρ η S, RelAll G none ρ η S σ H ∧ Sat G (fun c d H => W' c d σ H) ρ S H (m η S) (FlowOk G none D)
theorem b_expr {W' : L2.WX} (he : PE X e (RE G none W' C ie)) (hs : swapsWith e none pos.line X.env = pure false := by rfl) : PS X (.Expr e pos) (RB G W' (execS C (.expr ie))) :=
  (ps_expr he hs).of fun D σ H ⟨ρ, η, St, R, h⟩ => rd1 (f := fun _ S1 => .ok (Flow.nx η) S1) R h fun w v ρ1 S1 H1 R1 e1 r1 h1 => h1.now R1.st σ R1
theorem b_set {W' : L2.WX} (S : Sd G W' C k X) (hi : X.N[i]? = some x) (hx : locB X.env.scope x = true) (hf : (X.fn x || isLocB X.env.scope x) = true) (he : PE X e (RE G none W' C ie)) (hs : swapsWith e (some (.Name x pos')) pos.line X.env = pure false) :
    PS X (.Assign [.Name x pos'] e pos) (RB G W' (execS C (.asg (.nm i) ie))) :=
  (ps_set S.nd hi (loc_of hx) he hs (by
    rcases Bool.or_eq_true_iff.mp hf with h | h
    · exact .inl h
    · exact .inr (isLoc_of h))).of fun D σ H ⟨ρ, η, St, R, h⟩ => rd1 (f := fun w S1 => (noExc (setT C (.nm i) w η S1)).bind fun η1 S2 => .ok (Flow.nx η1) S2) R h fun w v ρ1 S1 H1 R1 e1 r1 h1 => by
      replace h1 : Sat G (fun c d H => W' c d σ H) ρ1 S1 H1 ((noExc (if i < η.length then .ok (η.set i (some w)) S1 else .stk)).bind fun η1 S2 => .ok (Flow.nx η1) S2) (FlowOk G none D) := h1
      split at h1
      · next hl => exact h1.now R1.st _ (R1.set r1 hl)
      · exact h1.elim
theorem noExc_ne {α : Type} {r : Res α} : ∀ c fs S', noExc r ≠ .exc c fs S' := fun c fs S' h => by
  cases r <;> cases h
theorem Sat.noE {α : Type} {ρ : Rho} {S : Store} {H : Hp} {W1 : XK} {r : Res α} {P : α → Rho → Store → Hp → Prop} (h : Sat G W1 ρ S H (noExc r) P) : Sat G noX ρ S H r P := by
  cases r with
  | ok a S' => exact h
  | exc c fs S' => exact (show False from h).elim
  | stk => exact (show False from h).elim
/-- what comes first may raise, the rest may not -/
theorem b_one {W' : L2.WX} {st : Stmt} {sts : List Stmt} {is : IS} {iss : ISs} (h1 : PS X st (RB G W' (execS C is))) (h2 : PSs X sts (RSs G noX C iss)) : PSs X (st :: sts) (RB G W' (execB C (.one is iss))) :=
  (pss_cons h1 h2).of fun D σ H ⟨ρ, η, St, R, h⟩ => by
    replace h : Sat G (fun c d H => W' c d σ H) ρ St H ((execS C is η St).bind fun f S1 => match f with
      | .nx η1 => noExc (execSs C iss η1 S1)
      | f => .ok f S1) (FlowOk G none D) := h
    refine ⟨ρ, η, St, R, h.bind.mono fun f ρ1 S1 H1 _ _ ⟨e1, R1, h1⟩ => ?_⟩
    cases f with
    | nx η1 => exact fun σ1 RA => ⟨ρ1, η1, S1, RA, h1.noE⟩
    | brk η1 => exact fun σ RA => (h1.now R1 : FlowOk G none D (.brk η1) ρ1 S1 H1) σ RA
    | cont η1 => exact fun σ RA => (h1.now R1 : FlowOk G none D (.cont η1) ρ1 S1 H1) σ RA
    | ret w => exact fun v r => (h1.now R1 : FlowOk G none D (.ret w) ρ1 S1 H1) v r
theorem b_if {W' : L2.WX} {sa sb sts : List Stmt} {ja jb : IB} {iss : ISs} (hc : PT X c (RT G none W' C ie)) (ha : PSs X sa (RB G W' (execB C ja))) (hb : PSs X sb (RB G W' (execB C jb))) (h2 : PSs X sts (RSs G noX C iss)) :
    PSs X (.If c sa sb pos :: sts) (RB G W' (execB C (.ifb ie ja jb iss))) :=
  (pss_cons (ps_if hc ha hb) h2).of fun D σ H ⟨ρ, η, St, R, h⟩ => by
    replace h : Sat G (fun c d H => W' c d σ H) ρ St H (((evalT C ie η St).bind fun k S1 => if k = true then execB C ja η S1 else execB C jb η S1).bind fun f S1 => match f with
      | .nx η1 => noExc (execSs C iss η1 S1)
      | f => .ok f S1) (FlowOk G none D) := h
    rw [Res.bind_assoc] at h
    have fin : ∀ {ρ1 : Rho} {S1 : Store} {H1 : Hp} {m : Res Flow}, Sat G (fun c d H => W' c d σ H) ρ1 S1 H1 (m.bind fun f S1 => match f with
      | .nx η1 => noExc (execSs C iss η1 S1)
      | f => .ok f S1) (FlowOk G none D) → Sat G (fun c d H => W' c d σ H) ρ1 S1 H1 m (FlowOk G none { nx := fun σ' H' => RSs G noX C iss D σ' H', rt := D.rt, bk := D.bk, ct := D.ct }) := fun h => h.bind.mono fun f ρ1 S1 H1 _ _ ⟨e1, R1, h1⟩ => by
        cases f with
        | nx η1 => exact fun σ1 RA => ⟨ρ1, η1, S1, RA, h1.noE⟩
        | brk η1 => exact fun σ RA => (h1.now R1 : FlowOk G none D (.brk η1) ρ1 S1 H1) σ RA
        | cont η1 => exact fun σ RA => (h1.now R1 : FlowOk G none D (.cont η1) ρ1 S1 H1) σ RA
        | ret w => exact fun v r => (h1.now R1 : FlowOk G none D (.ret w) ρ1 S1 H1) v r
    refine rd1t (Wx := W') (f := fun k S1 => (if k = true then execB C ja η S1 else execB C jb η S1).bind fun f S1 => match f with
      | .nx η1 => noExc (execSs C iss η1 S1)
      | f => .ok f S1) R h fun z ρ1 S1 H1 R1 e1 h1 => ?_
    cases z with
    | true => exact ⟨ρ1, η, S1, R1, fin h1⟩
    | false => exact ⟨ρ1, η, S1, R1, fin h1⟩

/-! ### the handled error is held by a name -/
theorem RelW.exn_to {L : Addr → Prop} {ρ : Rho} {H : Hp} {w : W} {v : V} (r : RelW G none L ρ H w v) : RelW G ex L ρ H w v := by
  cases r with
  | d r => exact .d r
  | loc r => exact .loc r
  | scr r => exact .scr r
  | exn h => cases h
theorem RelAll.exn_to {ρ : Rho} {η : Env} {S : Store} {σ : L2.St} {H : Hp} (R : RelAll G none ρ η S σ H) : RelAll G ex ρ η S σ H :=
  ⟨R.st, R.len, fun i w h => let ⟨v, e1, r⟩ := R.slot i w h; ⟨v, e1, r.exn_to⟩⟩
theorem noExn_get : ∀ {η : Env} (h : noExn η = true) {i : Nat} {w : W}, η[i]? = some (some w) → ∀ c fs, w ≠ .exn c fs
  | [], _, i, w, e => by simp at e
  | none :: r, h, i, w, e => by
    cases i with
    | zero => simp at e
    | succ i => exact noExn_get (η := r) (by simpa [noExn] using h) (i := i) (by simpa using e)
  | some u :: r, h, i, w, e => by
    cases i with
    | zero =>
      simp at e
      subst e
      intro c fs z
      subst z
      simp [noExn] at h
    | succ i =>
      refine noExn_get (η := r) ?_ (i := i) (by simpa using e)
      cases u <;> simp_all [noExn]
theorem RelAll.exn_off {ρ : Rho} {η : Env} {S : Store} {σ : L2.St} {H : Hp} (R : RelAll G ex ρ η S σ H) (h : noExn η = true) : RelAll G none ρ η S σ H :=
  ⟨R.st, R.len, fun i w e => by
    obtain ⟨v, e1, r⟩ := R.slot i w e
    refine ⟨v, e1, ?_⟩
    cases r with
    | d r => exact .d r
    | loc r => exact .loc r
    | scr r => exact .scr r
    | exn _ _ _ _ => exact absurd rfl (noExn_get h e _ _)⟩
theorem names_c {cd : ClD} {j : Nat} (S : Sd G Wx C k X) (hg : Gl X x) (h1 : C.P.cls[j]? = some cd) (hn : cd.name = x) (hdb : (x == ("__debug__" : Str)) = false) : Names X x (.ref (G.ca j)) := by
  subst hn
  exact ⟨hg, hdb, .inl (S.cmg j cd h1)⟩
theorem cls_of {P : Prog} {c : Nat} (h : excC P c = true) : ∃ cd fs, P.cls[c]? = some cd ∧ cd.exc = some fs := by
  unfold excC at h
  split at h
  · next k e =>
    obtain ⟨fs, h2⟩ := Option.isSome_iff_exists.mp h
    exact ⟨k, fs, e, h2⟩
  · cases h
theorem tyIs_exc {P : Prog} {c c' : Nat} (h : tyIs P (.cls c) (.cls c') = true) : ∃ cd, P.cls[c]? = some cd := by
  unfold tyIs at h
  simp only at h
  split at h
  · next k e => exact ⟨k, e⟩
  · cases h
/-- try: .. except X as n: .. -/
theorem s_try {n : Str} {np hp' : Pos} {body suite : List Stmt} {b₀ : Stmt} {ib' : IB} {js : ISs} {j : Nat} {cd : ClD} {fs0 : List Nat} (S : Sd G (wE E) C k X) (hst : X.stack = X.env :: X.outer) (hfr : X.env.frame = some X.env.locals)
    (hi : X.N[i]? = some n) (hln : X.env.kindOf n = some .local) (hg : Gl X x) (h1 : C.P.cls[j]? = some cd) (hn : cd.name = x) (hx : cd.exc = some fs0)
    (hb : ∀ (W' : L2.WX) (pn : List (Addr × Obj)) (xe : Value → Shared → Prop), Sd G W' C k (X.tr pn xe) → Sd G (wE noX) C k (X.tr pn xe) → PassesOwn (model X.prog X.w) X.A X.env xe → PSs (X.tr pn xe) body (RB G W' (execB C ib')))
    (hsu : ∀ (a : Addr) (oe : Obj) (cls : Value) (d : Option Addr) (pn : List (Addr × Obj)), Zc cls d oe → (∃ vs, oe.data = .fields vs) → Sd G (wE noX) C k (X.suite a ((a, oe) :: pn)) → PSs (X.suite a ((a, oe) :: pn)) (b₀ :: suite) (RSsx G (some (a, cls, d)) noX C js))
    (hdb : (x == ("__debug__" : Str)) = false := by decide) :
    PS X (.Try body [.ExceptHandler (some (.Name x np)) (some n) (b₀ :: suite) hp'] [] [] pos) (RS G E C (.tryx ib' j i js)) := by
  refine (ps_try_as (tb := fun W' => RB G W' (execB C ib')) (ts := fun a cls d => RSsx G (some (a, cls, d)) noX C js) hst hfr S.nd hi hln (names_c S hg h1 hn hdb) S.tk
    (fun W' pn xe tk ps => hb W' pn xe (S.tr pn xe tk) (S.tr pn xe takes0) ps) (fun a oe cls d pn hz hf => hsu a oe cls d pn hz hf (S.suite a _))).of fun D σ H ⟨ρ, η, St, R, h⟩ => ?_
  refine ⟨ρ, η, St, R, ?_⟩
  replace h : Sat G E ρ St H (match execB C ib' η St with
    | .exc c' fs S1 => if excC C.P c' = true ∧ i < η.length then (if tyIs C.P (.cls c') (.cls j) = true then
        (noExc (execSs C js (η.set i (some (.exn c' fs))) S1)).bind fun f S2 => match f with
          | .nx η1 => if noExn (η1.set i none) = true then .ok (.nx (η1.set i none)) S2 else .stk
          | _ => .stk
      else .exc c' fs S1) else .stk
    | r => r) (FlowOk G none D) := h
  cases hr : execB C ib' η St with
  | ok f S' => rw [hr] at h; exact h
  | stk => rw [hr] at h; exact h
  | exc c' fs S1 =>
    rw [hr] at h
    dsimp only at h
    by_cases hcl : excC C.P c' = true ∧ i < η.length
    case neg => rw [if_neg hcl] at h; exact h.elim
    rw [if_pos hcl] at h
    obtain ⟨hc', hlt⟩ := hcl
    obtain ⟨cd', fs', e1, e2⟩ := cls_of hc'
    have T := S.exf c' cd' fs' e1 e2
    have hj : excC C.P j = true := by unfold excC; rw [h1]; simp [hx]
    intro dx ρ' H' ext RS' rx
    refine ⟨tyIs C.P (.cls c') (.cls j), T.exm j hj, fun hb1 a0 ha0 => ?_, fun hb0 => ?_⟩
    · rw [hb1] at h
      simp only [if_true] at h
      have Rm := (R.mono ext RS').exn_to (ex := some (a0, Value.ref (G.ca c'), dx))
      have rexn : RelW G (some (a0, Value.ref (G.ca c'), dx)) (Live ρ' S1) ρ' H' (.exn c' fs) (.ref a0) := by
        rcases rx with ⟨rfl, rfl⟩ | ⟨d, vs, rfl, hd, nl, rf⟩
        · exact .exn (vs := []) rfl (fun d e => by cases e) (fun _ => rfl) .nil
        · exact .exn (vs := vs) rfl (fun d' e => by cases e; exact ⟨hd, nl⟩) (fun e => by cases e) rf
      refine ⟨ρ', η.set i (some (.exn c' fs)), S1, Rm.set rexn hlt, ?_⟩
      have h2 : Sat G noX ρ' S1 H' ((noExc (execSs C js (η.set i (some (.exn c' fs))) S1)).bind fun f S2 => match f with
        | .nx η1 => if noExn (η1.set i none) = true then .ok (Flow.nx (η1.set i none)) S2 else .stk
        | _ => .stk) (FlowOk G none D) := by
        have h3 := h.from ext
        cases hq : execSs C js (η.set i (some (.exn c' fs))) S1 with
        | ok f S2 =>
          rw [hq] at h3
          simp only [noExc_ok, Res.bind_ok] at h3 ⊢
          cases f with
          | nx η1 =>
            dsimp only at h3 ⊢
            split at h3
            · next q => rw [if_pos q]; exact h3
            · exact h3.elim
          | _ => exact h3.elim
        | exc c fs S2 => rw [hq] at h3; exact (show False from h3).elim
        | stk => rw [hq] at h3; exact (show False from h3).elim
      refine Sat.noE (W1 := noX) (h2.bind.mono fun f ρ1 S2 H1 _ _ ⟨e1', R1, h4⟩ => ?_)
      cases f with
      | nx η1 =>
        dsimp only at h4
        split at h4
        · next q => exact fun σ1 RA => (h4.now R1 : FlowOk G none D (.nx (η1.set i none)) ρ1 S2 H1) _ (RA.unset.exn_off q)
        · exact h4.elim
      | _ => exact (show False from h4).elim
    · rw [hb0] at h
      exact h dx ρ' H' ext RS' rx
end
end RI
/-! RI20: what an except suite asks of its error; counts and places in lists. -/
namespace RI
open PySem PySem.Spec PyProof.Rows L2
section
variable {G : Wd} {ex : Ex} {Wx : L2.WX} {C : Ctx} {k : Nat} {X : Cx} {pos p p2 apos : Pos} {x : Str} {i : Nat} {a b c e o : Expr} {ia ib ic io ie : IE} {es : List Expr} {ies : IEs}
/-! ### list.count, list.index -/
theorem RelDs.allEq {L : Addr → Prop} {H : Hp} {x : D} {v : V} (r : RelD G L H x v) (fx : flatD x = true) : ∀ {xs : List D} {vs : List V}, RelDs G L H xs vs → xs.all flatD = true → ∀ (j : Nat) (z : V), vs[j]? = some z → ∃ y, xs[j]? = some y ∧ eqV z v = eqF y x
  | _, _, .nil, _, j, z, e => by simp at e
  | _, _, .cons q h, f, j, z, e => by
    simp only [List.all_cons, Bool.and_eq_true] at f
    cases j with
    | zero =>
      simp at e
      subst e
      exact ⟨_, rfl, (RelDs.flat r fx).2 q f.1⟩
    | succ j => exact RelDs.allEq r fx h f.2 j z (by simpa using e)
theorem countP_eqU {x : V} : ∀ {xs : List V} {us : List Value}, Vals xs us → xs.all flatV = true → us.countP (eqU x) = xs.countP fun y => eqV y x
  | _, _, .nil, _ => rfl
  | y :: xs, u :: us, .cons r t, f => by
    rw [List.all_cons, Bool.and_eq_true] at f
    rw [List.countP_cons, List.countP_cons, eqU_of r f.1, countP_eqU t f.2]
theorem RelDs.countEq {L : Addr → Prop} {H : Hp} {x : D} {v : V} (r : RelD G L H x v) (fx : flatD x = true) : ∀ {xs : List D} {vs : List V}, RelDs G L H xs vs → xs.all flatD = true → (vs.countP fun y => eqV y v) = xs.countP fun y => eqF y x
  | _, _, .nil, _ => rfl
  | _, _, .cons q h, f => by
    simp only [List.all_cons, Bool.and_eq_true] at f
    rw [List.countP_cons, List.countP_cons, (RelDs.flat r fx).2 q f.1, RelDs.countEq r fx h f.2]
theorem mt_cnt (hK : X.K = G.K) : MtR X "list.count" (rBm G ex .count) := by
  rintro pins s σ H x xs v us Q I rx rv ⟨ρ, S, o, ws, w, S', R, ro, rw', e, k⟩
  unfold bmD at e
  split at e <;> try (first | cases e | contradiction)
  next w0 d hm =>
  split at e
  · next ys e1 =>
    split at e
    · next hf =>
      cases e
      simp only [Bool.and_eq_true] at hf
      obtain ⟨y, rfl, r⟩ := rw'.one
      have rd := r.d_inv
      obtain ⟨l, vs, rfl, hl, rz⟩ := ro.lstOf R e1
      have fl := RelDs.flat rd hf.1
      have fa := RelDs.allFlat rz hf.2
      cases rx
      obtain ⟨u, rfl, ru⟩ := rv.one
      obtain ⟨its, rvs, ⟨⟨cls, dd, data, sl⟩, n, ho, hc, hdn, hd⟩, hlen⟩ := I.list (SqL.of hl)
      simp only at hc hd
      subst hc hd
      refine call_meets PySem.F.slot_list_count ⟨_, ho, rfl⟩ PySem.F.entry_list_count (PySem.F.args_list_count_2 _ _)
        (SeqAt.list_countAt l its.toArray n dd sl u (eqU y)) ⟨ho, fun z hz => mem_eqAt ru fl.1 rvs fa z (by simpa using hz), ?_⟩
      have ec : its.toArray.toList.countP (eqU y) = ys.countP (eqF · d) := by
        show its.countP (eqU y) = _
        rw [countP_eqU rvs fa, RelDs.countEq rd hf.1 rz hf.2]
      refine ⟨.int (ys.countP (eqF · d) : Nat), H, I.tok _, ⟨s.toks, ?_⟩, k _ _ .refl R (.d (.int _))⟩
      show Value.int ((its.toArray.toList.countP (eqU y) : Nat) : Int) s.toks = Value.int ((ys.countP (eqF · d) : Nat) : Int) s.toks
      rw [ec]
    · cases e
  · cases e
theorem mt_tcnt (hK : X.K = G.K) : MtR X "tuple.count" (rBm G ex .tcount) := by
  rintro pins s σ H x xs v us Q I rx rv ⟨ρ, S, o, ws, w, S', R, ro, rw', e, k⟩
  unfold bmD at e
  split at e <;> try (first | cases e | contradiction)
  next ys d hm =>
  split at e
  · next hf =>
    cases e
    simp only [Bool.and_eq_true] at hf
    obtain ⟨y, rfl, r⟩ := rw'.one
    have rd := r.d_inv
    obtain ⟨l, vs, rfl, hl, rz⟩ := ro.d_inv.tup_inv
    have fl := RelDs.flat rd hf.1
    have fa := RelDs.allFlat rz hf.2
    cases rx
    obtain ⟨u, rfl, ru⟩ := rv.one
    obtain ⟨its, rvs, ⟨⟨cls, dd, data, sl⟩, ho, hc, n, hd⟩, hlen⟩ := I.tuple (hK ▸ hl.sq)
    simp only at hc hd
    subst hc hd
    refine call_meets PySem.F.slot_tuple_count ⟨_, ho, rfl⟩ PySem.F.entry_tuple_count (PySem.F.args_tuple_count_2 _ _)
      (SeqAt.tuple_countAt l its.toArray n dd sl u (eqU y)) ⟨ho, fun z hz => mem_eqAt ru fl.1 rvs fa z (by simpa using hz), ?_⟩
    have ec : its.toArray.toList.countP (eqU y) = ys.countP (eqF · d) := by
      show its.countP (eqU y) = _
      rw [countP_eqU rvs fa, RelDs.countEq rd hf.1 rz hf.2]
    refine ⟨.int (ys.countP (eqF · d) : Nat), H, I.tok _, ⟨s.toks, ?_⟩, k _ _ .refl R (.d (.int _))⟩
    show Value.int ((its.toArray.toList.countP (eqU y) : Nat) : Int) s.toks = Value.int ((ys.countP (eqF · d) : Nat) : Int) s.toks
    rw [ec]
  · cases e
theorem bmT_of {σ : L2.St} {H : Hp} {Q : VK} (h : RE G ex Wx C (.bm ie .tcount ies) σ H Q) : tBMT G.K (rBm G ex .tcount) (RE G ex Wx C ie) (REs G ex Wx C ies) σ H Q := by
  obtain ⟨ρ, η, St, R, h0⟩ := h
  refine rd1 (f := fun o S1 => if recvOk .tcount o S1 = true then (evalEs C ies η S1).bind fun ws S2 => bmD .tcount o ws S2 else .stk) R h0 fun w v ρ1 S1 H1 R1 e1 r1 h1 => ?_
  split at h1
  · next hr =>
    have : ∃ xs, w = .d (.tup xs) := by
      unfold recvOk at hr
      cases w with
      | d x => cases x with
        | tup s => exact ⟨s, rfl⟩
        | _ => cases hr
      | _ => cases hr
    obtain ⟨xs, rfl⟩ := this
    obtain ⟨a, vs, rfl, ha, _⟩ := r1.d_inv.tup_inv
    refine ⟨⟨a, vs, rfl, ha⟩, rd1s R1 h1 fun ws vs ρ2 S2 H2 R2 e2 r2 h2 => ?_⟩
    cases hb : bmD .tcount (.d (.tup xs)) ws S2 with
    | ok z S3 => exact ⟨ρ2, S2, _, ws, z, S3, R2.st, r1.mono e2.kp e2.pre, r2, hb, fun v' H' e' R' r' => by rw [hb] at h2; exact h2 _ _ e' R' v' r'⟩
    | exc c fs S3 => exact (bm_noexc hb).elim
    | stk => rw [hb] at h2; exact h2.elim
  · exact h1.elim
/-- t.count(x) -/
theorem e_tcount (S : Sd G Wx C k X) (ho : PE X o (RE G ex Wx C io)) (ha : PA X [e] (REs G ex Wx C ies)) (hbase : attributeBase o "count" X.env (eval o X.env) = eval o X.env := by rfl) (hline : (apos.endLine == pos.line) = true := by rfl)
    (hs : starEach [e] X.env = (false, eval e X.env) :: starEach [] X.env := by rfl) : PE X (.Call (.Attribute o "count" apos) [e] [] pos) (RE G ex Wx C (.bm io .tcount ies)) :=
  (pe_bmT PySem.F.slot_tuple_count PySem.F.type_tuple_count (mt_tcnt (G := G) (ex := ex) S.hK) ho ha hbase (by rw [hs]; rfl) hline hs rfl).of fun σ H Q h => by rw [S.hK]; exact bmT_of h
theorem mt_ind (hK : X.K = G.K) : MtR X "list.index" (rBm G ex .index) := by
  rintro pins s σ H x xs v us Q I rx rv ⟨ρ, S, o, ws, w, S', R, ro, rw', e, k⟩
  unfold bmD at e
  split at e <;> try (first | cases e | contradiction)
  next w0 d hm =>
  split at e
  · next ys e1 =>
    split at e
    · next hf =>
      cases e
      simp only [Bool.and_eq_true] at hf
      obtain ⟨⟨⟨f1, f2⟩, f3⟩, f4⟩ := hf
      obtain ⟨y, rfl, r⟩ := rw'.one
      have rd := r.d_inv
      obtain ⟨l, vs, rfl, hl, rz⟩ := ro.lstOf R e1
      have fl := RelDs.flat rd f1
      have fa := RelDs.allFlat rz f2
      have hlt : ys.findIdx (eqF · d) < ys.length := by
        rw [List.findIdx_lt_length]
        simpa using f3
      obtain ⟨z, hz, rz1⟩ := rz.get (List.getElem?_eq_getElem hlt)
      refine mt_index pins s σ H _ _ v us Q I rx rv ⟨l, vs, y, _, z, rfl, rfl, SqL.of hl, fl.1, fa, hz, ?_, fun m z' hm hz' => ?_, k _ _ .refl R (.d (.int _))⟩
      · obtain ⟨y', hy', e'⟩ := RelDs.allEq rd f1 rz f2 _ _ hz
        rw [e']
        rw [List.getElem?_eq_getElem hlt] at hy'
        cases hy'
        exact List.findIdx_getElem (w := hlt)
      · obtain ⟨y', hy', e'⟩ := RelDs.allEq rd f1 rz f2 _ _ hz'
        rw [e']
        have hml : m < ys.length := by omega
        rw [List.getElem?_eq_getElem hml] at hy'
        cases hy'
        simpa using List.not_of_lt_findIdx hm
    · cases e
  · cases e
theorem e_count (S : Sd G Wx C k X) (ho : PE X o (RE G ex Wx C io)) (ha : PA X [e] (REs G ex Wx C ies)) (hbase : attributeBase o "count" X.env (eval o X.env) = eval o X.env := by rfl) (hline : (apos.endLine == pos.line) = true := by rfl)
    (hs : starEach [e] X.env = (false, eval e X.env) :: starEach [] X.env := by rfl) : PE X (.Call (.Attribute o "count" apos) [e] [] pos) (RE G ex Wx C (.bm io .count ies)) :=
  (pe_bm PySem.F.plainAttrs_list PySem.F.slot_list_count PySem.F.type_list_count (mt_cnt (G := G) (ex := ex) S.hK) ho ha hbase (by rw [hs]; rfl) hline hs rfl).of fun σ H Q h => bm_of (fun _ _ _ _ _ R r q => recv_list (by decide) R r q) h
theorem e_index (S : Sd G Wx C k X) (ho : PE X o (RE G ex Wx C io)) (ha : PA X [e] (REs G ex Wx C ies)) (hbase : attributeBase o "index" X.env (eval o X.env) = eval o X.env := by rfl) (hline : (apos.endLine == pos.line) = true := by rfl)
    (hs : starEach [e] X.env = (false, eval e X.env) :: starEach [] X.env := by rfl) : PE X (.Call (.Attribute o "index" apos) [e] [] pos) (RE G ex Wx C (.bm io .index ies)) :=
  (pe_bm PySem.F.plainAttrs_list PySem.F.slot_list_index PySem.F.type_list_index (mt_ind (G := G) (ex := ex) S.hK) ho ha hbase (by rw [hs]; rfl) hline hs rfl).of fun σ H Q h => bm_of (fun _ _ _ _ _ R r q => recv_list (by decide) R r q) h

/-! ### the error -/
theorem exn_at {a0 : Addr} {oe : Obj} {cls : Value} {d : Option Addr} {pn : List (Addr × Obj)} {Da : Addr} {pins : List (Addr × Obj)} {σ : L2.St} {H : Hp} {s : Shared} (I : Inv (X.suite a0 ((a0, oe) :: pn)) pins σ H s) (hz : Zc cls d oe) (hf : ∃ vs, oe.data = .fields vs) (hc : cls = .ref Da)
    (hd : ∀ dd, d = some dd → ∃ vs, H dd = some (.xd vs)) : (d = none ∧ PySem.W.InstAt s.heap a0 oe Da none) ∨ ∃ dd vs od, d = some dd ∧ H dd = some (.xd vs) ∧ s.heap.get? dd = some od ∧ PySem.W.InstAt s.heap a0 oe Da (some od) := by
  obtain ⟨hget, _⟩ := I.pin (a0, oe) (List.mem_append_left _ List.mem_cons_self)
  obtain ⟨ws, hv⟩ := hf
  obtain ⟨h1, h2⟩ := hz
  have hno : PySem.W.notCls oe = true := by unfold PySem.W.notCls; rw [hv]
  cases d with
  | none => exact .inl ⟨rfl, hget, h1.trans hc, hno, by rw [h2]; trivial⟩
  | some dd =>
    obtain ⟨vs, hx⟩ := hd dd rfl
    have ho : ObjOk X.prog X.w H s.heap dd (.xd vs) := I.hok dd _ hx
    obtain ⟨mA, hns, hr⟩ := ho
    obtain ⟨od, es', ep', hod, _⟩ := hns
    exact .inr ⟨dd, vs, od, rfl, hx, hod, hget, h1.trans hc, hno, by rw [h2]; exact hod⟩
/-- isinstance(e, c) -/
def rIsX (K : PySem.W.Frag) (cls : Value) (a0 : Addr) (d : Option Addr) : List V → Hp → VK → Prop := fun xs H Q => ∃ (Da : Addr) (c : V) (cv : Value) (b : Bool), cls = .ref Da ∧ ExcC K Da ∧ xs = [.ref a0, c] ∧ ClsV c cv ∧ (∀ dd, d = some dd → ∃ vs, H dd = some (.xd vs)) ∧ PySem.W.kitOne K (.ref Da) cv = some b ∧ Q (.bl b) H
theorem clsIn_some {K : PySem.W.Frag} {Da : Addr} (h : PySem.W.hasDictIn K Da = true) : (PySem.W.clsIn K Da).isSome = true := by
  unfold PySem.W.hasDictIn at h
  cases hc : PySem.W.clsIn K Da with
  | none => rw [hc] at h; cases h
  | some c => rfl
theorem call_isX {a0 : Addr} {oe : Obj} {cls : Value} {d : Option Addr} {pn : List (Addr × Obj)} (hz : Zc cls d oe) (hf : ∃ vs, oe.data = .fields vs) : CallR (X.suite a0 ((a0, oe) :: pn)) (.builtin "isinstance") (rIsX X.K cls a0 d) := by
  rintro pins s σ H xs us Q I r ⟨Da, c, cv, b, hc, Ce, rfl, hcv, hd, e, q⟩
  obtain ⟨u1, u2, rfl, r1, r2⟩ := vals2 r
  have e2 := hcv.eq r2
  subst e2
  cases r1
  have fin : ∀ tk, EP (X.suite a0 ((a0, oe) :: pn)) pins σ Q (.bool b) { s with toks := tk } := fun tk => ⟨.bl b, H, I.tok tk, rfl, q⟩
  rcases exn_at I hz hf hc hd with ⟨rfl, J⟩ | ⟨dd, vs, od, rfl, _, _, J⟩
  · exact PySem.W.kia_one (PySem.W.kitx_exc (od := none) (ox := oe) (clsIn_some Ce.hd) Ce.hg Ce.hk Ce.hs Ce.ha Ce.hn Ce.ht Ce.hm) I.kIn J e (fun z => nomatch z) fin
  · exact PySem.W.kia_one (PySem.W.kitx_exc (od := some od) (ox := oe) (clsIn_some Ce.hd) Ce.hg Ce.hk Ce.hs Ce.ha Ce.hn Ce.ht Ce.hm) I.kIn J e (fun z => nomatch z) fin
theorem exn_inv {L : Addr → Prop} {ρ : Rho} {H : Hp} {a0 : Addr} {cls : Value} {d : Option Addr} {cc : Nat} {fs : List (Nat × D)} {v : V} (r : RelW G (some (a0, cls, d)) L ρ H (.exn cc fs) v) :
    v = .ref a0 ∧ cls = .ref (G.ca cc) ∧ ∃ vs, (∀ dd, d = some dd → H dd = some (.xd vs) ∧ ¬ L dd) ∧ (d = none → vs = []) ∧ RelFs G L H fs vs := by
  cases r with
  | exn h1 h2 h3 h4 => cases h1; exact ⟨rfl, rfl, _, h2, h3, h4⟩
theorem e_isx {t : Ty} {a0 : Addr} {oe : Obj} {cls : Value} {d : Option Addr} {pn : List (Addr × Obj)} (S : Sd G Wx C k (X.suite a0 ((a0, oe) :: pn))) (hz : Zc cls d oe) (hf : ∃ vs, oe.data = .fields vs) (hg : Gl X "isinstance")
    (he : PE (X.suite a0 ((a0, oe) :: pn)) e (RE G (some (a0, cls, d)) Wx C ie)) (ht : TyE G (X.suite a0 ((a0, oe) :: pn)) c t) (hok : tyX C.P t = true := by rfl)
    (h1 : starEach [e, c] X.env = (false, eval e X.env) :: starEach [c] X.env := by rfl) (h2 : starEach [c] X.env = (false, eval c X.env) :: starEach [] X.env := by rfl) (hpl : (backTo pos (starEach [c] X.env)).any (·.1) = false := by rfl) :
    PE (X.suite a0 ((a0, oe) :: pn)) (.Call (.Name "isinstance" p) [e, c] [] pos) (RE G (some (a0, cls, d)) Wx C (.isx ie t)) := by
  obtain ⟨v, hv, hc⟩ := ht
  refine (pe_callB (call_isX hz hf) hg (S.bmg _ (by decide)) (by rfl) (pa_cons he (pa_cons hc pa_nil h2) h1) (by decide) (by decide) h1 hpl).of fun σ H Q h => ?_
  obtain ⟨ρ, η, St, R, h0⟩ := h
  refine rd1 (f := fun x S1 => match x with
    | .exn c _ => if excC C.P c = true then .ok (W.d (.bl (tyIs C.P (.cls c) t))) S1 else .stk
    | _ => .stk) R h0 fun w v1 ρ1 S1 H1 R1 e1 r1 h3 => ?_
  cases w with
  | exn c2 fs2 =>
    dsimp only at h3
    obtain ⟨rfl, hcl, vs, hd, _, _⟩ := exn_inv r1
    split at h3
    · next hcc =>
      obtain ⟨cd', fs', e1, e2⟩ := cls_of hcc
      have T := S.exf c2 cd' fs' e1 e2
      exact ⟨G.ca c2, v, tyVal G t, tyIs C.P (.cls c2) t, hcl, T.cl, rfl, hv, fun dd e => ⟨vs, (hd dd e).1⟩, T.kit t hok, h3.now R1.st _ (.d (.bl _))⟩
    · exact h3.elim
  | _ => exact (show False from h3).elim
/-- e.f -/
def tExn (K : PySem.W.Frag) (n : Str) (cls : Value) (a0 : Addr) (d : Option Addr) (te : TE) : TE := fun σ H Q => te σ H fun x H1 => x = .ref a0 ∧ ∃ (Da dd : Addr) (vs : List (Str × V)) (v : V), cls = .ref Da ∧ ExcC K Da ∧ PySem.W.findIn K (.ref Da) n = some none ∧ d = some dd ∧ H1 dd = some (.xd vs) ∧ vs.lookup n = some v ∧ Q v H1
theorem pe_exn {n : Str} {a0 : Addr} {oe : Obj} {cls : Value} {d : Option Addr} {pn : List (Addr × Obj)} {te : TE} (hz : Zc cls d oe) (hf : ∃ vs, oe.data = .fields vs) (he : PE (X.suite a0 ((a0, oe) :: pn)) e te)
    (hb : attributeBase e n X.env (eval e X.env) = eval e X.env := by rfl) : PE (X.suite a0 ((a0, oe) :: pn)) (.Attribute e n pos) (tExn X.K n cls a0 d te) := by
  refine ⟨fun pins s σ H Q I h => attr_of hb (thn (he.run pins s σ H _ I h) fun u s1 hh => ?_)⟩
  obtain ⟨x, H1, I1, rx, ex, Da, dd, vs, v, ec, Ce, hno, ed, hx, hl, q⟩ := hh
  subst ex
  obtain rfl : u = Value.ref a0 := rx
  subst ed
  have hx2 : ObjOk X.prog X.w H1 s1.heap dd (.xd vs) := I1.hok dd _ hx
  obtain ⟨mA, hns, hr⟩ := hx2
  obtain ⟨od, ho, hlk⟩ := lookIn_ns hns
  obtain ⟨hget, _⟩ := I1.pin (a0, oe) (List.mem_append_left _ List.mem_cons_self)
  obtain ⟨ws, hv⟩ := hf
  have J : PySem.W.InstAt s1.heap a0 oe Da (some od) := ⟨hget, hz.1.trans ec, by unfold PySem.W.notCls; rw [hv], by rw [hz.2]; exact ho⟩
  obtain ⟨u, hu, ru⟩ := RelO.some_of (v := v) (o := mA n) (by have := hr n; rw [hl] at this; exact this)
  exact HandSPX.exc_get I1.kIn J Ce.hg Ce.hk Ce.hs (PySem.W.findObj_own Ce.hd hno rfl (by rw [hlk, hu])) (handed_of ru) ⟨v, H1, I1.tok _, ru, q⟩
theorem e_flx {f : Nat} {n : Str} {ns : List Str} {a0 : Addr} {oe : Obj} {cls : Value} {d : Option Addr} {pn : List (Addr × Obj)} (S : Sd G Wx C k (X.suite a0 ((a0, oe) :: pn))) (hz : Zc cls d oe) (hf : ∃ vs, oe.data = .fields vs) (hfl : C.P.flds.contains f = true) (hnm : G.nm = nmOf ns) (hn : nmOf ns f = n)
    (he : PE (X.suite a0 ((a0, oe) :: pn)) e (RE G (some (a0, cls, d)) Wx C ie)) (hb : attributeBase e n X.env (eval e X.env) = eval e X.env := by rfl) :
    PE (X.suite a0 ((a0, oe) :: pn)) (.Attribute e n pos) (RE G (some (a0, cls, d)) Wx C (.flx ie f)) := by
  subst hn
  rw [← hnm]
  refine (pe_exn hz hf he (by rw [hnm]; exact hb)).of fun σ H Q h => ?_
  obtain ⟨ρ, η, St, R, h0⟩ := h
  refine rd1 (f := fun x S1 => match x with
    | .exn c fs => if excC C.P c = true then (ofO (lookN f fs) S1).bind fun z S2 => .ok (W.d z) S2 else .stk
    | _ => .stk) R h0 fun w v1 ρ1 S1 H1 R1 e1 r1 h3 => ?_
  cases w with
  | exn c2 fs2 =>
    dsimp only at h3
    obtain ⟨rfl, hcl, vs, hd, hn0, rf⟩ := exn_inv r1
    split at h3
    · next hcc =>
      obtain ⟨z, ez, h4⟩ := h3.ofO_bind
      obtain ⟨cd', fs', e1, e2⟩ := cls_of hcc
      have T := S.exf c2 cd' fs' e1 e2
      obtain ⟨v, ev, rv⟩ := rf.look S.nmI ez
      cases d with
      | none =>
        rw [hn0 rfl] at ev
        cases ev
      | some dd => exact ⟨rfl, G.ca c2, dd, vs, v, hcl, T.cl, T.nof f hfl, rfl, (hd dd rfl).1, ev, h4.now R1.st _ (.d rv)⟩
    · exact h3.elim
  | _ => exact (show False from h3).elim
end
end RI
/-! RI21: the error classes' facts; a law's end. -/
namespace RI
open PySem PySem.Spec PyProof.Rows L2
theorem FnG.quiet {Pm : Program} {w : World} {K : PySem.W.Frag} {mg : Str → Option Value} {base : Heap} {k : Nat} {f : Addr} {fd : FuncData} {ps : List Str} {sp : Sp} (F : FnG Pm w K mg base (L2.CX Pm w) k f fd ps sp) :
    FnG Pm w K mg base L2.CX0 k f fd ps (fun vs H Q _ => sp vs H Q fun _ _ _ => False) := by
  refine ⟨fun vs H Q E h => F.len vs H Q _ h, fun A outer s H args us vs Q E gd hr e0 hb r h => codeAny_mono (F.run A outer s H args us vs Q _ gd hr e0 hb r h) fun q s' hq => ?_⟩
  cases q with
  | error e =>
    obtain ⟨a, B, H', cls, d, h1⟩ := hq
    exact (h1.2.2.2.2.2.2.2).elim
  | ok fl => cases fl <;> exact hq

/-! ### the __init__ of an error class -/
structure XInit (P : Prog) (ns : List Str) (fd : FnD) (d : He.DefD) (f : Nat) : Prop where
  np : fd.np = 2 ∧ fd.N.length = 2
  fl : P.flds.contains f = true
  body : ∀ (Pm : Program) (w : World) (K : PySem.W.Frag) (mg : Str → Option Value) (base : Heap) (fa : Addr) (cdv : Value) (A : Around) (outer : List PySem.Env) (s : Shared) (H : Hp) (E : XK),
    PSs (cxOf CX0 Pm w K mg base fd.N d.qual d.scope fa cdv A outer s H E) d.body (tOst K (nmOf ns f) (tVar 0) (tVar 1))
inductive AllXi (P : Prog) (ns : List Str) (ds : List He.DefD) : List ClD → Prop where
  | nil : AllXi P ns ds []
  | plain {c : ClD} {cs : List ClD} : (∀ f, c.exc ≠ some [f]) → AllXi P ns ds cs → AllXi P ns ds (c :: cs)
  | own {c : ClD} {cs : List ClD} {f fi : Nat} {fd : FnD} {d : He.DefD} : c.exc = some [f] → c.xin = some fi → P.fns[fi]? = some fd → ds[fi]? = some d → XInit P ns fd d f → AllXi P ns ds cs → AllXi P ns ds (c :: cs)
abbrev AllXI (P : Prog) (ns : List Str) (ds : List He.DefD) : Prop := AllXi P ns ds P.cls
theorem AllXi.get {P : Prog} {ns : List Str} {ds : List He.DefD} {cs : List ClD} (h : AllXi P ns ds cs) : ∀ {i : Nat} {c : ClD} {f : Nat}, cs[i]? = some c → c.exc = some [f] → ∃ fi fd d, c.xin = some fi ∧ P.fns[fi]? = some fd ∧ ds[fi]? = some d ∧ XInit P ns fd d f := by
  induction h with
  | nil => intro i c f e; simp at e
  | plain h _ ih =>
    intro i c f e e2
    cases i with
    | zero => simp at e; subst e; exact absurd e2 (h f)
    | succ i => exact ih (by simpa using e) e2
  | own h1 h2 h3 h4 h5 _ ih =>
    intro i c f e e2
    cases i with
    | zero =>
      simp at e
      subst e
      rw [h1] at e2
      cases e2
      exact ⟨_, _, _, h2, h3, h4, h5⟩
    | succ i => exact ih (by simpa using e) e2
section
variable (P : Prog) (ds : List He.DefD) (ns : List Str) (K : PySem.W.Frag)
end
theorem oex_of {K : PySem.W.Frag} {C : Addr} (q : oexB K C = true) : ∃ nm q N bs bm sn sub ab col dd k0 k1 k2 k3 k5, K.lookup C = some (excClassObj nm q C N bs bm true sn sub ab col dd k0 k1 k2 k3 k5 "ValueError.__new__") ∧ PySem.HandSPX.refsVE bm = true := by
  unfold oexB at q
  split at q
  · rename_i dd cd sl ho
    split at q
    · rename_i C' bm k0 k1 k2 k3 n k5 hm hs
      simp only [Bool.and_eq_true, beq_iff_eq, Bool.not_eq_true'] at q
      obtain ⟨rfl, rfl, hdel, hdc, ht⟩ := q
      obtain ⟨nm, bs, mro, N, qn, hd, sn, sub, ab, col, del⟩ := cd
      dsimp only at hm hdel hdc
      subst hm hdel hdc
      have hsl : sl = #[k0, k1, k2, k3, some (.builtin "ValueError.__new__"), k5] := by
        cases sl with
        | mk l => simp only at hs; rw [hs]
      subst hsl
      exact ⟨nm, qn, N, bs, bm, sn, sub, ab, col, dd, k0, k1, k2, k3, k5, ho, ht⟩
    · cases q
  · cases q
theorem exf_of {P : Prog} {ds : List He.DefD} {ns : List Str} {Pm : Program} {w : World} {K : PySem.W.Frag} {mg : Str → Option Value} {base : Heap} (g : Gf (wdOf P ds ns K) P K w mg) (A : AllF P ns P.fns ds) (XI : AllXI P ns ds) (fa : FaOk (wdOf P ds ns K) K ds)
    (dd : ∀ d ∈ ds, ∃ fd, FunD K d.name d.qual d.params d.body d.scope (d.dvs K) (d.kws K) (He.fAd K d.at_) fd) (cx : exX P ds ns K = true) :
    ∀ c d fs, P.cls[c]? = some d → d.exc = some fs → ExF (wdOf P ds ns K) Pm w K mg base P c fs := by
  intro c cd fs h1 h2
  have hz : (cd, c) ∈ P.cls.zipIdx := by rw [List.mem_zipIdx_iff_getElem?]; exact h1
  have hq := List.all_eq_true.mp cx _ hz
  simp only [h2] at hq
  unfold excB at hq
  simp only [Bool.and_eq_true, decide_eq_true_eq] at hq
  obtain ⟨⟨k1, k2, k3, k4⟩, ⟨k5, k6, k7, k8, k9, k10⟩, k11, k12, k13, k14⟩ := hq
  have hall := List.all_eq_true.mp k13
  have pair : ∀ c', excC P c' = true → PySem.W.exmOne K (.ref ((wdOf P ds ns K).ca c)) (.ref ((wdOf P ds ns K).ca c')) = some (tyIs P (.cls c) (.cls c')) ∧ PySem.W.kitOne K (.ref ((wdOf P ds ns K).ca c)) (.ref ((wdOf P ds ns K).ca c')) = some (tyIs P (.cls c) (.cls c')) := fun c' hc => by
    have hl : c' < P.cls.length := by
      obtain ⟨cd', _, e, _⟩ := cls_of hc
      exact (List.getElem?_eq_some_iff.mp e).1
    have := hall c' (List.mem_range.mpr hl)
    rw [hc] at this
    simpa using this
  have nof : ∀ f, P.flds.contains f = true → PySem.W.findIn K (.ref ((wdOf P ds ns K).ca c)) ((wdOf P ds ns K).nm f) = some none := fun f hf => He.eqO_ok (List.all_eq_true.mp k12 f (by simpa using hf))
  refine { kC := k1, tyC := k2, cl := ⟨He.eqO_ok k3, He.eqO_ok k4, k5, k6, He.eqO_ok k7, He.eqO_ok k8, k9, k10⟩, own := fun e => by subst e; exact k11, ini := fun f e => ?_, one := ?_, nof := nof, exm := fun c' hc => (pair c' hc).1, kit := fun u hu => ?_ }
  · subst e
    obtain ⟨fi, fd, d, x1, x2, x3, XD⟩ := XI.get h1 h2
    simp only [x1, Bool.and_eq_true, decide_eq_true_eq] at k11
    obtain ⟨m1, m2, m3, m4⟩ := k11
    have O : OexC K ((wdOf P ds ns K).ca c) := ⟨oex_of m1, He.eqO_ok m2, k5, k2, k1⟩
    obtain ⟨d', hd', F⟩ := A.get x2
    rw [x3] at hd'
    cases hd'
    obtain ⟨fdat, FD⟩ := dd d (List.mem_of_getElem? x3)
    have e1 : d.dvs K = [] := by unfold He.DefD.dvs; rw [F.dfl.1]; rfl
    have e2 : d.kws K = [] := by unfold He.DefD.kws; rw [F.dfl.2]; rfl
    rw [e1, e2] at FD
    have ef := fa fi d x3
    have lN : fd.N.take fd.np = fd.N := by
      rw [XD.np.1, ← XD.np.2]
      exact List.take_length
    refine ⟨O, (wdOf P ds ns K).fa fi, fdat, fd.N.take fd.np, He.eqO_ok m3, m4, ?_, FD.bindsN F.bd⟩
    rw [ef]
    refine FD.ok (k := 0) F.sc (fun vs H Q E h => ?_) fun cdv A0 outer s H vs Q E hr h => ?_
    · obtain ⟨a, v, rfl, _⟩ := h
      rw [lN, XD.np.2]
      rfl
    · refine ⟨_, XD.body Pm w K mg base _ cdv A0 outer s H E, ?_⟩
      obtain ⟨a, v, rfl, ha, hk⟩ := h
      have hst : L2.start fd.N [V.ref a, v] = [some (V.ref a), some v] := by
        have l2 := XD.np.2
        cases hN : fd.N with
        | nil => rw [hN] at l2; simp at l2
        | cons x r =>
          cases r with
          | nil => rw [hN] at l2; simp at l2
          | cons y r2 =>
            cases r2 with
            | nil => rfl
            | cons z r3 => rw [hN] at l2; simp at l2
      rw [hst]
      exact ⟨v, rfl, .ref a, rfl, a, _, rfl, O, nof f XD.fl, .inl ⟨ha, fun dx hd hne => hk dx hd hne⟩⟩
  · cases fs with
    | nil => simp
    | cons f r =>
      cases r with
      | nil => simp
      | cons f2 r2 => simp at k11
  · cases u with
    | valueError => exact k14
    | cls c' => exact (pair c' hu).2
    | _ => cases hu
theorem law_facts {P : Prog} {ds : List He.DefD} {ns : List Str} {Pm : Program} {w : World} {K : PySem.W.Frag} {h : Heap} {mg : Str → Option Value} {fu n lid : Nat} {fd : FnD} {ld : He.DefD} {fA : Addr} (hts : ∀ (i : Nat) T x, P.tabs[i]? = some T → P.tnm[i]? = some x → TabF (wdOf P ds ns K) K w mg T x) (X : K.In h) (G : h.Ns mainGlobals mg)
    (A : AllF P ns P.fns ds) (XI : AllXI P ns ds) (hn : nmOk ns = true) (hl : P.cnm.length = P.consts.length) (hf : P.fns[lid]? = some fd) (hnp : fd.np = 1) (ht : fd.top = true) (hN : fd.N[0]? = some ("script" : Str))
    (hfa : mg fd.name = some (.ref fA)) (sd : He.SaysD [] ds K) (c : ex P ds ns K = true) (cx : exX P ds ns K = true)
    (law : ∀ xs : List Int, xs.length ≤ 63 → ∃ S', callF P fu n lid [.scr xs] [] = .ok (.d (.bl true)) S') :
    ∃ (fdat : FuncData) (sp : Sp), (∀ (s : Shared) (u : Value), BindsTo s fdat ⟨[u], []⟩ [("script", u)]) ∧
      (∀ (H : Hp) (a : Addr) (xs : List Int), xs.length ≤ 63 → Only H → SqL K H a (xs.map V.int) → sp [.ref a] H (fun v _ => v = .bl true) fun _ _ _ => False) ∧
      ∀ base : Heap, K.In base → base.Ns mainGlobals mg → FnG Pm w K mg base L2.CX0 (2 * n + 2) fA fdat [("script" : Str)] sp := by
  have g := gf_of (P := P) (ds := ds) (ns := ns) hts X G hn hl c
  have fa : FaOk (wdOf P ds ns K) K ds := fun f d e => by
    show He.fAd K ((ds[f]?.map (·.at_)).getD _) = _
    rw [e]; rfl
  have eA : (wdOf P ds ns K).fa lid = fA := by
    have := (g.fmg lid fd hf ht).symm.trans hfa
    injection this with this
    injection this
  have ps1 : fd.N.take fd.np = [("script" : Str)] := by
    rw [hnp]
    cases hq : fd.N with
    | nil => rw [hq] at hN; simp at hN
    | cons a t => rw [hq] at hN; simp at hN; subst hN; rfl
  obtain ⟨d, hd, F⟩ := A.get hf
  obtain ⟨fdat, FD⟩ := sd.defs (List.mem_of_getElem? hd)
  have e1 : d.dvs K = [] := by unfold He.DefD.dvs; rw [F.dfl.1]; rfl
  have e2 : d.kws K = [] := by unfold He.DefD.kws; rw [F.dfl.2]; rfl
  rw [e1, e2] at FD
  refine ⟨fdat, fun vs H Q _ => spF (wdOf P ds ns K) (callF P fu n lid) fd.np vs H Q fun _ _ _ => False, fun s u => ?_, fun H a xs hx ho hs => ?_, fun base hb hbg => ?_⟩
  · have := FD.bindsA F.bd s [u] (by rw [ps1]; rfl)
    rw [ps1] at this
    exact this
  · obtain ⟨S', hc⟩ := law xs hx
    refine ⟨⟨[], fun _ => False⟩, [], [.scr xs], ⟨rfl, .nil, fun l c a h => by simp at h, fun a h => by simp at h, fun a f => f.elim⟩, .cons (.scr ?_) .nil, hnp.symm, ?_⟩
    · rcases hs with (hs | hs) | hs
      · rcases ho a with h0 | ⟨o, xs', h0⟩
        · rw [h0] at hs; cases hs
        · rw [h0] at hs; cases hs
      · exact .inl hs
      · exact .inr hs
    · rw [hc]
      exact fun ρ' H' e' R' v rv => by cases rv with | d rv => cases rv; rfl
  · have F1 := fn_all (Pm := Pm) (w := w) (base := base) (fu := fu) g rfl A fa (fun d hd => sd.defs hd) (exf_of (g := g) A XI fa (fun d hd => sd.defs hd) cx) n lid fd d fdat hf hd F FD
    rw [eA, ps1] at F1
    exact FnG.quiet F1
end RI
/-! RIS: set(xs), xs a list of ints (as HandS has it for tuples). -/
namespace L2
open PySem PySem.Spec PyProof.Rows
section
variable {P : Program} {w : World} {A : Around} {E : Value → Shared → Prop} {s : Shared}
set_option maxRecDepth 100000 in
set_option maxHeartbeats 3200000 in
theorem call_set_lstI {l : Addr} {items : Array Value} (ns : List Int) {Q : Value → Shared → Prop} (hh : A.handled = none) (hl : s.heap.IsList l items) (hit : IntsAre items.toList ns) (hb : ns.length + 1 < scanBound)
    (h : ∀ (h' : Heap) (tk c : Nat), SetR w h' s.heap.objs.size (fun j => decide (j ∈ ns)) c → c ≤ ns.length → (∀ b o, s.heap.get? b = some o → h'.get? b = some o) → Q (.ref s.heap.objs.size) { s with heap := h', toks := tk }) :
    wpAny (model P w) A (call (.type "set") [.ref l]) Q E s := by
  have hisz : items.size = ns.length := by
    have q := IntsAre.length hit
    rw [Array.length_toList] at q
    exact q
  obtain ⟨c, tl, hmro⟩ := F.called_set.mro
  have hmade := F.called_set.made
  have hsub := F.called_set.sub
  refine wpAny_call (codeAny_of_tree ?_)
  show wpAny _ _ (callAny (.type "set") _) _ _ _
  refine wpAny_pure ⟨Code.quiet_builtin _ (by decide +kernel), codeAny_builtin F.entry_type_call ?_⟩
  rw [Around.under_plain (weight_type_call_type "set" [.ref l] []) rfl]
  have h1 := F.called_set.notType
  have h2 := F.called_set.canCreate
  have hct := F.typeCall_set_1 (.ref l)
  repeat (any_goals (first | assumption | wp_step))

  refine codeAny_mono (code_set_led1 (.ref l) (E := E) (Q₁ := fun obj s₁ => obj = .ref s.heap.objs.size ∧ s₁ = { s with heap := s.heap.push { cls := .type "set", dict := none, data := .set #[] 0 (.fresh 0 0 (!w.params.followText "set-order")) } }) ⟨rfl, rfl⟩) fun r s₁ hr => ?_
  cases r with
  | error e => exact hr
  | ok fl =>
    cases fl with
    | ret obj =>
      obtain ⟨rfl, rfl⟩ := hr
      have hS : (s.heap.push { cls := .type "set", dict := none, data := .set #[] 0 (.fresh 0 0 (!w.params.followText "set-order")) }).get? s.heap.objs.size = some { cls := .type "set", dict := none, data := .set #[] 0 (.fresh 0 0 (!w.params.followText "set-order")) } := Heap.get?_push_size _ rfl
      have hT : Shared.TypeIs { s with heap := s.heap.push { cls := .type "set", dict := none, data := .set #[] 0 (.fresh 0 0 (!w.params.followText "set-order")) } } (.ref s.heap.objs.size) "set" := ⟨_, hS, rfl⟩
      have hli := F.called_set.init.lookup
      have hbi := F.called_set.init.bind (.ref s.heap.objs.size)
      repeat (any_goals (first | assumption | wp_step))

      refine codeAny_mono (codeAny_call_builtin (R := wants (fun r s₂ => r = .none ∧ ∃ h' tk c, s₂ = { s with heap := h', toks := tk } ∧ SetR w h' s.heap.objs.size (fun j => decide (j ∈ ns)) c ∧ c ≤ ns.length ∧
          (∀ b o, s.heap.get? b = some o → h'.get? b = some o)) E) F.called_set.init.plain F.entry_set_init (check_set_init_1 hT ?_)) fun r₂ s₂ hr₂ => ?_
      · obtain ⟨ol, hol, hcl, nl, hdl⟩ := hl
        obtain ⟨ocls, odict, odata, oslots⟩ := ol
        simp only at hcl hdl
        subst hcl; subst hdl
        have hol' : (s.heap.push { cls := .type "set", dict := none, data := .set #[] 0 (.fresh 0 0 (!w.params.followText "set-order")) }).get? l = some { cls := .type "list", dict := odict, data := .seq items nl, slots := oslots } := Heap.get?_push_of_some _ hol
        have hsls := F.sub_list_set
        have hslf := F.sub_list_frozenset
        have hne : (Value.type "list" == Value.type "dict") = false := by decide
        have hl1 : (s.heap.push { cls := .type "set", dict := none, data := .set #[] 0 (.fresh 0 0 (!w.params.followText "set-order")) }).IsList l items := ⟨_, hol', rfl, nl, rfl⟩
        unfold Builtin.«set.__init__» noKeywords Builtin.Frozenset.updateFrom
        generalize hPI : pyIter = PI
        wp_walk
        subst hPI

        refine wpAny_pyIter_list hl1 ?_
        refine wpAny_bind (wpAny_runValue ?_)
        have hlS : l < s.heap.objs.size := Heap.lt_size hol
        have hh3 : A.in1.in1.in1.handled = none := by simp [hh]
        have hz1 : (s.heap.push { cls := .type "set", dict := none, data := .set #[] 0 (.fresh 0 0 (!w.params.followText "set-order")) }).objs.size = s.heap.objs.size + 1 := Heap.size_push ..
        have hneI : l ≠ (s.heap.push { cls := .type "set", dict := none, data := .set #[] 0 (.fresh 0 0 (!w.params.followText "set-order")) }).objs.size := by
          rw [Heap.size_push]; exact Nat.ne_of_lt (Nat.lt_succ_of_lt hlS)
        have hSf : s.heap.objs.size ∉ [(s.heap.push { cls := .type "set", dict := none, data := .set #[] 0 (.fresh 0 0 (!w.params.followText "set-order")) }).objs.size, l] := by
          rw [Heap.size_push]; simp only [List.mem_cons, List.mem_singleton, List.not_mem_nil, or_false, not_or]
          exact ⟨Nat.ne_of_lt (Nat.lt_succ_self _), Nat.ne_of_gt hlS⟩
        have hval : ∀ (i : Nat) (v : Value), items[i]? = some v → ∃ k t, ns[i]? = some k ∧ v = .int k t := fun i v hv => by
          have hi : i < ns.length := by rw [← hisz]; exact (Array.getElem?_eq_some_iff.mp hv).1
          obtain ⟨t, e⟩ := PyProof.Rows.IntsAre.int_at hit i v (by rw [Array.getElem?_toList]; exact hv)
          refine ⟨ns[i], t, List.getElem?_eq_getElem hi, ?_⟩
          rw [e, List.getD_eq_getElem?_getD, List.getElem?_eq_getElem hi] <;> rfl
        refine set_update_ints ((Walks.list hh3 _ l hneI items).toS) s.heap.objs.size
          hSf ns hisz hb hval (items.size - 0) 0 _ (by omega) (Nat.zero_le _)
          ⟨⟨_, Heap.get?_push_size _ rfl, rfl, rfl⟩, (hl1.push _)⟩ ?hS0 ?hR
        case hS0 =>
          have hget : ((s.heap.push { cls := .type "set", dict := none, data := .set #[] 0 (.fresh 0 0 (!w.params.followText "set-order")) }).push { cls := .type "list_iterator", data := .fields #[.ref l, .int 0 0] }).get? s.heap.objs.size
              = some { cls := .type "set", dict := none, data := .set #[] 0 (.fresh 0 0 (!w.params.followText "set-order")) } := Heap.get?_push_of_some _ hS
          exact ⟨0, Nat.le_refl 0, setR_new_at hget⟩
        case hR =>
          intro s' c' hm hc' hS'
          obtain ⟨h', g2, d', tk', os'⟩ := s'
          have eg : g2 = s.gens := hm.gens
          have ed : d' = s.drawn := hm.drawn
          have eo : os' = s.os := hm.os
          subst eg; subst ed; subst eo
          show wpAny _ _ _ _ _ _
          refine wpAny_pure ?_
          show wpAny _ _ (ret Value.none) _ _ _
          rw [hisz] at hc'
          refine wpAny_pure ⟨rfl, h', tk', c', rfl, hS', hc', fun b o e => ?_⟩
          have hb0 : b < s.heap.objs.size := Heap.lt_size e
          have hb1 : b ≠ s.heap.objs.size := Nat.ne_of_lt hb0
          have hb2 : b ≠ (s.heap.push { cls := .type "set", dict := none, data := .set #[] 0 (.fresh 0 0 (!w.params.followText "set-order")) }).objs.size := by
            rw [Heap.size_push]; exact Nat.ne_of_lt (Nat.lt_succ_of_lt hb0)
          exact hm.heap b o (by simp only [List.mem_cons, List.mem_singleton, List.not_mem_nil, or_false, not_or]; exact ⟨hb1, hb2⟩) (Heap.get?_push_of_some _ (Heap.get?_push_of_some _ e))

      · cases r₂ with
        | error e => exact hr₂
        | ok fl₂ =>
          cases fl₂ with
          | ret r =>
            obtain ⟨rfl, h', tk, c', rfl, hS', hc', hk'⟩ := hr₂
            repeat (any_goals (first | assumption | wp_step))
            exact h _ _ _ hS' hc' hk'
          | _ => exact hr₂.elim
    | _ => exact hr.elim

end
end L2
/-! RI22: new lists that are written later on; small displays; sets that are let go at once. -/
namespace RI
open PySem PySem.Spec PyProof.Rows L2
section
variable {G : Wd} {ex : Ex} {Wx : L2.WX} {C : Ctx} {k : Nat} {X : Cx} {pos p p2 p3 apos : Pos} {x : Str} {i : Nat} {a b c e o : Expr} {ia ib ic io ie : IE} {es : List Expr} {ies : IEs} {fd : FnD}
/-- list(..) that gets a cell -/
theorem e_listT (S : Sd G Wx C k X) (hg : Gl X "list") (ha : PA X [e] (REs G none Wx C ies)) (he : starEach [e] X.env = (false, eval e X.env) :: starEach [] X.env := by rfl) (hpl : (backTo pos (starEach [] X.env)).any (·.1) = false := by rfl) :
    PE X (.Call (.Name "list" p) [e] [] pos) (RE G none Wx C (.thaw (.bi .list ies))) :=
  (pe_callTy call_list_of hg (S.bmg _ (by decide)) (by rfl) ha (by decide) (by decide) he hpl).of fun σ H Q h => by
    obtain ⟨ρ, η, St, R, h0⟩ := h
    replace h0 : Sat G (fun c d H => Wx c d σ H) ρ St H (((evalEs C ies η St).bind fun ws S1 => (ofO (biD .list ws S1) S1).bind fun x S2 => .ok (W.d x) S2).bind fun w S1 => thawD w S1) _ := h0
    rw [Res.bind_assoc] at h0
    refine rd1s (f := fun ws S1 => ((ofO (biD .list ws S1) S1).bind fun x S2 => .ok (W.d x) S2).bind fun w S1 => thawD w S1) R h0 fun ws vs ρ1 S1 H1 R1 e1 r1 h1 => ?_
    rw [Res.bind_assoc] at h1
    obtain ⟨z, ez, h2⟩ := h1.ofO_bind
    rw [Res.bind_ok] at h2
    unfold biD at ez
    split at ez <;> try (first | contradiction | cases ez)
    next w hw =>
    simp only [Option.map_eq_some_iff] at ez
    obtain ⟨⟨kd, xs⟩, es1, rfl⟩ := ez
    obtain ⟨v, rfl, rv⟩ := r1.one
    obtain ⟨a, vs, rfl, hs, rs⟩ := rv.seqOf R1.st es1
    refine ⟨a, vs, rfl, ?_, fun l hl => h2.after (Ext.newCell (c := .lst xs) (o := .lst vs) R1.st hl) (R1.st.newLst hl rs) _ (.loc (by rw [← R1.st.len]; exact app_get _ _))⟩
    rcases hs with ⟨_, hs⟩ | ⟨_, hs⟩
    · exact .inr (by rw [S.hK]; exact hs.sq)
    · exact .inl (by rw [S.hK]; exact hs)
theorem rgV_rel {L : Addr → Prop} {H : Hp} (n : Int) : RelDs G L H ((List.range n.toNat).map fun i => D.int (i : Nat)) (rgV 0 n) := by
  unfold rgV
  rw [show (n - 0).toNat = n.toNat by simp]
  generalize n.toNat = m
  have : ∀ l : List Nat, RelDs G L H (l.map fun i => D.int (i : Nat)) (l.map fun i => V.int (0 + (i : Nat))) := by
    intro l
    induction l with
    | nil => exact .nil
    | cons a l ih => exact .cons (by show RelD G L H (.int (a : Nat)) (.int (0 + (a : Nat))); rw [Int.zero_add]; exact .int _) ih
  exact this _
/-- list(range(n)) -/
theorem e_lrng (S : Sd G Wx C k X) (hcm : X.calm = true) (hg : Gl X "list") (hg2 : Gl X "range") (ha : PE X a (RE G ex Wx C ia)) (na : starEach [a] X.env = (false, eval a X.env) :: starEach [] X.env := by rfl)
    (na2 : starEach [.Call (.Name "range" p2) [a] [] p3] X.env = (false, eval (.Call (.Name "range" p2) [a] [] p3) X.env) :: starEach [] X.env := by rfl) :
    PE X (.Call (.Name "list" p) [.Call (.Name "range" p2) [a] [] p3] [] pos) (RE G ex Wx C (.lrng ia)) :=
  (pe_listRg hcm hg (S.bmg _ (by decide)) (prg_1 hg2 (S.bmg _ (by decide)) ha na) na2).of fun σ H Q ⟨ρ, η, St, R, h0⟩ => rd1 (f := fun w S1 => match w with
    | .d (.int n) => if -lineR ≤ n ∧ n < 16777216 then .ok (W.d (.lst ((List.range n.toNat).map fun i => .int (i : Nat)))) S1 else .stk
    | _ => .stk) R h0 fun w v ρ1 S1 H1 R1 e1 r1 h1 => by
      cases r1 with
      | d r1 =>
        cases r1 with
        | int n =>
          dsimp only at h1
          split at h1
          · next hn =>
            rw [lineR_eq] at hn
            refine ⟨n, rfl, ⟨by decide, by decide, hn.1, by omega, by omega⟩, fun q hq => h1.after (Ext.newObj (o := .lst (rgV 0 n)) hq) (R1.st.newObj hq) _ (.d (RelD.newLst R1.st hq (rgV_rel n)))⟩
          · exact h1.elim
        | _ => exact (show False from h1).elim
      | _ => exact (show False from h1).elim
/-- a list of things that may be cells -/
theorem e_lsw {es : List Expr} {ies : IEs} (h : PA X es (REs G none Wx C ies)) (hl : ies.len ≤ sizeLine := by decide) : PE X (.List es pos) (RE G none Wx C (.lsw ies)) :=
  (pe_lst h).of fun σ H Q ⟨ρ, η, S, R, h0⟩ => rd1n (f := fun ws S1 => .ok (W.loc S1.length) (S1 ++ [Cell.lsw ws])) R h0 fun ws vs ρ1 S1 H1 R1 e1 r1 l1 h1 => by
    refine ⟨by rw [l1]; exact hl, fun p hp => ?_⟩
    have e2 := Ext.newCell (c := .lsw ws) (o := .lst vs) R1.st hp
    exact h1.after e2 (R1.st.newCell hp (.lsw (upd_same ..) (r1.mono e2.kp e2.pre))) _ (.loc (by rw [← R1.st.len]; exact app_get _ _))
/-- f() -/
theorem e_call0 (S : Sd G Wx C k X) (hcm : X.calm = true) (hg : Gl X x) (h1 : C.P.fns[i]? = some fd) (hn : fd.name = x) (ht : fd.top = true) (hl : fd.np = 0) (hdb : (x == ("__debug__" : Str)) = false := by decide) :
    PE X (.Call (.Name x p) [] [] pos) (RE G none Wx C (.call i .nil)) := by
  subst hn
  obtain ⟨fdat, ps, hps, F, hb⟩ := (S.fok i fd h1).ex
  refine ⟨fun pins s σ H Q I h => ?_⟩
  refine wpAny_Call_Name_kw (ld_glob I hg (S.fmg i fd h1 ht) ?_ hdb)
  refine PySem.W.callWith_K0 I.kIn (S.fok i fd h1).kp (FnG.call (us := []) F S.gd ((S.room hcm).mono (Nat.le_succ _)) hb (passAt S.tk σ) I .nil ?_)
  obtain ⟨ρ, η, St, R, h0⟩ := h
  exact spF_of R.st .nil hl.symm h0
theorem e_dic0 : PE X (.Dict [] [] pos) (RE G ex Wx C .dic0) :=
  pe_dnewK.of fun σ H Q ⟨ρ, η, S, R, h0⟩ p hp => by
    have h1 : Sat G (fun c d H => Wx c d σ H) ρ S H (.ok (W.d (.dic [])) S) _ := h0
    exact h1.after (Ext.newObj (o := .dK []) hp) (R.st.newObj hp) _ (.d (.dic (upd_same ..) (R.st.fresh hp) .nil))
/-! ### sorted(set(t)), t a tuple of ints -/
theorem nodup_le : ∀ {a b : List Int}, a.Nodup → (∀ x ∈ a, x ∈ b) → a.length ≤ b.length
  | [], _, _, _ => by simp
  | x :: a, b, h, hs => by
    obtain ⟨h1, h2⟩ := List.nodup_cons.mp h
    have hx := hs x (by simp)
    have := nodup_le (a := a) (b := b.erase x) h2 fun y hy => (List.mem_erase_of_ne (fun e : y = x => by subst e; exact h1 hy)).mpr (hs y (by simp [hy]))
    rw [List.length_erase_of_mem hx] at this
    have : 0 < b.length := List.length_pos_of_mem hx
    simp
    omega
theorem setR_le {w : World} {h : Heap} {a : Addr} {ns : List Int} {n : Nat} {ms : List Int} (R : SetR w h a (fun j => decide (j ∈ ns)) n) (hm : ∀ j, j ∈ ns → j ∈ ms) : n ≤ ms.length := by
  obtain ⟨o, es, ep, t, h1, h2, h3, h4, h5, h6, h7, h8, h9, _⟩ := R
  have := nodup_le h5 fun x hx => hm x (by have := (h6 x).mpr hx; simpa using this)
  simp only [List.length_map, Array.length_toList] at this
  omega
def rSetT (K : PySem.W.Frag) (w : World) : List V → Hp → VK → Prop := fun xs H Q => ∃ (p : Addr) (ns : List Int), xs = [.ref p] ∧ (SqT K H p (ns.map V.int) ∨ SqL K H p (ns.map V.int)) ∧ ns.length < 4000 ∧
  ∀ (q : Addr) (n : Nat), (∀ ms : List Int, (∀ j, j ∈ ns → j ∈ ms) → n ≤ ms.length) → H q = none → Q (.ref q) (upd H q (SetO w q (fun j => decide (j ∈ ns)) n))
theorem cr_setT (hcm : X.calm = true) : CallR X (.type "set") (rSetT X.K X.w) := by
  rintro pins s σ H xs us Q I r ⟨p, ns, rfl, hq, hl, q⟩
  obtain ⟨u, rfl, rx⟩ := vals1 r
  cases rx
  rcases hq with hq | hq
  · obtain ⟨its, r', pl, hz⟩ := I.tuple hq
    refine call_set_tupI ns (I.ok.hd hcm) pl (by simpa using ints_of_vals r') (Nat.lt_of_le_of_lt (Nat.succ_le_of_lt hl) (by decide)) fun h' tk n hS hn kp => ?_
    exact ⟨.ref s.heap.objs.size, upd H s.heap.objs.size (SetO X.w s.heap.objs.size (fun j => decide (j ∈ ns)) n), I.laid (t' := tk) kp (Nat.le_refl _) (setO_new hS), rfl, q _ n (fun ms hm => setR_le hS hm) (I.hok.fresh (Nat.le_refl _))⟩
  · obtain ⟨its, r', pl, hz⟩ := I.list hq
    refine call_set_lstI ns (I.ok.hd hcm) pl.isList (by simpa using ints_of_vals r') (Nat.lt_of_le_of_lt (Nat.succ_le_of_lt hl) (by decide)) fun h' tk n hS hn kp => ?_
    exact ⟨.ref s.heap.objs.size, upd H s.heap.objs.size (SetO X.w s.heap.objs.size (fun j => decide (j ∈ ns)) n), I.laid (t' := tk) kp (Nat.le_refl _) (setO_new hS), rfl, q _ n (fun ms hm => setR_le hS hm) (I.hok.fresh (Nat.le_refl _))⟩
theorem mem_insU {i j : Int} : ∀ {l : List Int}, j ∈ insU i l ↔ j = i ∨ j ∈ l
  | [] => by simp [insU]
  | a :: r => by
    unfold insU
    split
    · simp
    · split
      · next h => subst h; simp
      · simp [mem_insU (l := r)]
        constructor
        · rintro (h | h | h) <;> simp [h]
        · rintro (h | h | h) <;> simp [h]
theorem insU_sorted {i : Int} : ∀ {l : List Int}, l.Pairwise (· < ·) → (insU i l).Pairwise (· < ·)
  | [], _ => by simp [insU]
  | a :: r, h => by
    rw [List.pairwise_cons] at h
    unfold insU
    split
    · next h1 => exact List.pairwise_cons.mpr ⟨fun b hb => by
        rcases List.mem_cons.mp hb with rfl | hb
        · exact h1
        · have := h.1 b hb; omega, List.pairwise_cons.mpr h⟩
    · split
      · exact List.pairwise_cons.mpr h
      · next h1 h2 => exact List.pairwise_cons.mpr ⟨fun b hb => by
          rcases mem_insU.mp hb with rfl | hb
          · omega
          · exact h.1 b hb, insU_sorted h.2⟩
theorem mem_sortU {j : Int} : ∀ {l : List Int}, j ∈ sortU l ↔ j ∈ l
  | [] => by simp [sortU]
  | a :: r => by
    show j ∈ insU a (sortU r) ↔ _
    rw [mem_insU, mem_sortU (l := r)]
    simp
theorem sortU_sorted : ∀ l : List Int, (sortU l).Pairwise (· < ·)
  | [] => by simp [sortU]
  | a :: r => insU_sorted (sortU_sorted r)
theorem sorted_ext : ∀ {a b : List Int}, a.Pairwise (· < ·) → b.Pairwise (· < ·) → (∀ j, j ∈ a ↔ j ∈ b) → a = b
  | [], [], _, _, _ => rfl
  | [], y :: b, _, _, h => by have := (h y).mpr (by simp); simp at this
  | x :: a, [], _, _, h => by have := (h x).mp (by simp); simp at this
  | x :: a, y :: b, ha, hb, h => by
    rw [List.pairwise_cons] at ha hb
    have h1 := (h x).mp (by simp)
    have h2 := (h y).mpr (by simp)
    have e : x = y := by
      rcases List.mem_cons.mp h1 with h1 | h1
      · exact h1
      · rcases List.mem_cons.mp h2 with h2 | h2
        · exact h2.symm
        · have := ha.1 y h2; have := hb.1 x h1; omega
    subst e
    rw [sorted_ext ha.2 hb.2 fun j => ?_]
    have hj := h j
    simp only [List.mem_cons] at hj
    constructor
    · intro q
      have := ha.1 j q
      rcases hj.mp (.inr q) with z | z
      · omega
      · exact z
    · intro q
      have := hb.1 j q
      rcases hj.mpr (.inr q) with z | z
      · omega
      · exact z
theorem RelDs.ofInts {L : Addr → Prop} {H : Hp} : ∀ {xs : List D} {vs : List V} {ns : List Int}, RelDs G L H xs vs → intsOf xs = some ns → vs = ns.map V.int
  | _, _, ns, .nil, e => by simp [intsOf] at e; subst e; rfl
  | _, _, ns, .cons r h, e => by
    cases r with
    | int i =>
      simp only [intsOf, Option.map_eq_some_iff] at e
      obtain ⟨m, e1, rfl⟩ := e
      rw [RelDs.ofInts h e1]
      rfl
    | _ => simp [intsOf] at e
theorem e_setsort (S : Sd G Wx C k X) (hcm : X.calm = true) (hg : Gl X "sorted") (hg2 : Gl X "set") (ha : PE X a (RE G ex Wx C ia)) (na : starEach [a] X.env = (false, eval a X.env) :: starEach [] X.env := by rfl)
    (na2 : starEach [.Call (.Name "set" p2) [a] [] p3] X.env = (false, eval (.Call (.Name "set" p2) [a] [] p3) X.env) :: starEach [] X.env := by rfl)
    (hpl : (backTo p3 (starEach [] X.env)).any (·.1) = false := by rfl) (hpl2 : (backTo pos (starEach [] X.env)).any (·.1) = false := by rfl) :
    PE X (.Call (.Name "sorted" p) [.Call (.Name "set" p2) [a] [] p3] [] pos) (RE G ex Wx C (.setop .sort ia)) :=
  (pe_callB (cr_sortedSet hcm) hg (S.bmg _ (by decide)) (by rfl) (pa_cons (pe_callTy (cr_setT hcm) hg2 (S.bmg _ (by decide)) (by rfl) (pa_cons ha pa_nil na) (by decide) (by decide) na hpl) pa_nil na2) (by decide) (by decide) na2 hpl2).of
  fun σ H Q ⟨ρ, η, St, R, h0⟩ => rd1 (f := fun x S1 => (ofO (setD .sort x S1) S1).bind fun z S2 => .ok (W.d z) S2) R h0 fun w v ρ1 S1 H1 R1 e1 r1 h1 => by
    obtain ⟨z, ez, h2⟩ := h1.ofO_bind
    have ez' : ((seqOf w S1).bind fun p => (intsOf p.2).bind fun ns => if ns.length < 4000 ∧ (sortU ns).length < 64 then some (D.lst ((sortU ns).map .int)) else none) = some z := ez
    rw [Option.bind_eq_some_iff] at ez'
    obtain ⟨⟨kk, xs⟩, e1', ez'⟩ := ez'
    rw [Option.bind_eq_some_iff] at ez'
    obtain ⟨ns, e2, e3⟩ := ez'
    split at e3
    · next hl =>
      cases e3
      obtain ⟨t, vs, rfl, hk, rs⟩ := r1.seqOf R1.st e1'
      have ev := rs.ofInts e2
      subst ev
      have ht : SqT X.K H1 t (ns.map V.int) ∨ SqL X.K H1 t (ns.map V.int) := by
        rw [S.hK]
        rcases hk with ⟨_, h⟩ | ⟨_, h⟩
        · exact .inl h.sq
        · exact .inr h
      refine ⟨t, ns, rfl, ht, hl.1, fun q n hn hq => ⟨q, _, n, rfl, upd_same .., by have := hn (sortU ns) (fun j hj => mem_sortU.mpr hj); have := hl.2; omega, fun ms p hs hm hlen hp => ?_⟩⟩
      have em : ms = sortU ns := sorted_ext hs (sortU_sorted ns) fun j => by rw [hm j, mem_sortU]; simp
      subst em
      have e4 : Ext ρ1 S1 H1 ρ1 S1 (upd (upd H1 q (SetO X.w q (fun j => decide (j ∈ ns)) n)) p (.lst ((sortU ns).map V.int))) := (Ext.newObj hq).trans (Ext.newObj hp)
      have R4 := (R1.st.newObj (o := SetO X.w q (fun j => decide (j ∈ ns)) n) hq).newObj (o := .lst ((sortU ns).map V.int)) hp
      exact h2.after e4 R4 _ (.d (.lst (upd_same ..) (fun l => by
        have := (R1.st.newObj (o := SetO X.w q (fun j => decide (j ∈ ns)) n) hq).fresh hp
        exact this l) (RelDs.ints _)))
    · cases e3
end
end RI
/-! RI23: repr. -/
namespace RI
open PySem PySem.Spec PyProof.Rows L2
section
variable {G : Wd} {ex : Ex} {Wx : L2.WX} {C : Ctx} {k : Nat} {X : Cx} {pos p : Pos} {a : Expr} {ia : IE}
def rRep (K : PySem.W.Frag) : List V → Hp → VK → Prop := fun xs H Q => ∃ (v : V) (d : PyData), xs = [v] ∧ Dp K H v d ∧ d.showable = true ∧ d.hasDict = false ∧ d.depth ≤ 64 ∧ d.shown.length ≤ sizeLine ∧ Q (.str d.shown) H
theorem cr_rep (gd : X.A.guards = some []) (hu : X.A.units + 66 < cLine) : CallR X (.builtin "repr") (rRep X.K) := by
  rintro pins s σ H xs us Q I r ⟨v, d, rfl, hd, h1, h2, h3, h4, q⟩
  obtain ⟨u, rfl, rv⟩ := vals1 r
  have fin : ∀ t tk, EP X pins σ Q (.str d.shown t) { s with toks := tk } := fun t tk => ⟨.str d.shown, H, I.tok tk, ⟨t, rfl⟩, q⟩
  have big : ∀ ad, u = .ref ad → wpAny (model X.prog X.w) X.A (PySem.call (.builtin "repr") [u]) (EP X pins σ Q) X.xe s := fun ad e => by
    obtain ⟨as, rd⟩ := Dp.reads I d v u hd rv
    subst e
    exact repr_of_reads' rd h1 (fun z => by rw [h2] at z; cases z) gd (by omega) (fun _ _ e => e) (fun h' t tk hk => ⟨.str d.shown, H, I.kept (t' := tk) hk, ⟨t, rfl⟩, q⟩) h4
  cases hd with
  | non =>
    cases rv
    exact PySem.P.repr_of_none (fin _ _)
  | bl b =>
    cases rv
    exact PySem.P.repr_of_bool (by cases b <;> exact fin _ _)
  | int i =>
    obtain ⟨t, rfl⟩ := rv
    exact PySem.P.repr_of_int (by simpa [PyData.showable] using h1) (fin _ _)
  | str x =>
    obtain ⟨t, rfl⟩ := rv
    exact PySem.P.repr_of_str (fin _ _) (by simpa [PyData.shown] using h4)
  | _ =>
    cases rv
    exact big _ rfl
def rRep2 (K : PySem.W.Frag) : List V → Hp → VK → Prop := fun xs H Q => rRep K xs H Q ∨ ∃ a, xs = [V.ref a] ∧ H a = some (.dK []) ∧ Q (.str (Str' [123, 125])) H
theorem cr_rep2 (gd : X.A.guards = some []) (hu : X.A.units + 66 < cLine) : CallR X (.builtin "repr") (rRep2 X.K) := by
  intro pins s σ H xs us Q I r h
  rcases h with h | ⟨a, rfl, ha, q⟩
  · exact cr_rep gd hu pins s σ H xs us Q I r h
  · obtain ⟨u, rfl, rv⟩ := vals1 r
    cases rv
    have ok : ObjOk X.prog X.w H s.heap a (.dK []) := I.hok a _ ha
    obtain ⟨_, hs, vs, kv, o, es, ep, ho, hx, hd, _, he, _⟩ := ok
    cases kv
    have e0 : es.toList = [] := by
      generalize es.toList = l at he
      cases l with
      | nil => rfl
      | cons _ _ => cases he
    have rd : Reads s.heap (.ref a) (.dict []) (a :: [] ++ []) := Reads.dict ho hx.1 hd (by rw [e0]; exact .nil) (by rw [e0]; exact .nil)
    have sh : PyData.shown (.dict []) = Str' [123, 125] := by decide +kernel
    refine repr_of_reads' rd rfl (fun _ hm => ?_) gd (by show X.A.units + (PyData.depth (.dict []) + 1) < cLine; have : PyData.depth (.dict []) = 1 := rfl; omega) (fun _ _ e => e) (fun h' t tk hk => ⟨.str (Str' [123, 125]), H, I.kept (t' := tk) hk, ?_, q⟩) (by rw [sh]; decide)
    · simp at hm
      rw [hm] at hs
      simp at hs
    · rw [sh]
      exact ⟨t, rfl⟩
theorem e_rep (S : Sd G Wx C k X) (hg : Gl X "repr") (ha : PE X a (RE G ex Wx C ia)) (na : starEach [a] X.env = (false, eval a X.env) :: starEach [] X.env := by rfl) (hpl : (backTo pos (starEach [] X.env)).any (·.1) = false := by rfl) :
    PE X (.Call (.Name "repr" p) [a] [] pos) (RE G ex Wx C (.rep ia)) :=
  (pe_callB (cr_rep2 S.gd S.un) hg (S.bmg _ (by decide)) (by rfl) (pa_cons ha pa_nil na) (by decide) (by decide) na hpl).of fun σ H Q ⟨ρ, η, St, R, h0⟩ => rd1 (f := fun w S1 => (ofO (reprD w) S1).bind fun z S2 => .ok (W.d z) S2) R h0 fun w v ρ1 S1 H1 R1 e1 r1 h1 => by
    obtain ⟨z, ez, h2⟩ := h1.ofO_bind
    unfold reprD at ez
    split at ez
    · cases ez
      have r1' := r1.d_inv
      cases r1' with
      | dic hH hn hr =>
        cases hr
        exact .inr ⟨_, rfl, hH, h2.now R1.st _ (.d (.str _))⟩
    · next x hx =>
      rw [Option.bind_eq_some_iff] at ez
      obtain ⟨d, e2, e3⟩ := ez
      split at e3
      · next hc =>
        cases e3
        refine .inl ⟨v, d, rfl, by rw [S.hK]; exact r1.d_inv.dp e2, hc.1, hc.2.1, hc.2.2.1, hc.2.2.2, ?_⟩
        have e : V.str d.shown = V.str (Str' d.shown.cps.toList) := by
          congr 1
        rw [e]
        exact h2.now R1.st _ (.d (.str _))
      · cases e3
    · cases ez
end
end RI
/-! RI24: == where no own __eq__ can be asked (a handler's suite). -/
namespace RI
open PySem PySem.Spec PyProof.Rows L2
section
variable {G : Wd} {ex : Ex} {Wx : L2.WX} {C : Ctx} {k : Nat} {X : Cx} {pos p p2 : Pos} {x : Str} {i : Nat} {a b c : Expr} {ia ib ic : IE}
theorem e_cmpd {o : COp} {op : CmpOp} (S : Sd G Wx C k X) (ha : PE X a (RE G ex Wx C ia)) (hb : PE X b (RE G ex Wx C ib)) (hm : behindInMarks op b = false := by with_unfolding_all rfl) (ho : op = o.op := by rfl) :
    PE X (.Compare a [op] [b] pos) (RE G ex Wx C (.cmpd o ia ib)) := by
  subst ho
  exact (pe_cmpR (or_cmp (o := o) (G := G) (ex := ex) S.hK (by have := S.un; omega)) ha hb hm).of fun σ H Q ⟨ρ, η, St, R, h0⟩ => rd1 (f := fun x S1 => ((evalP C ib).1 η S1).bind fun y S2 => (ofO (cmpD o x y S2) S2).bind fun k S3 => .ok (W.d (.bl k)) S3) R h0 fun w v ρ1 S1 H1 R1 e1 r1 h1 =>
    rd1 R1 h1 fun w2 v2 ρ2 S2 H2 R2 e2 r2 h2 => by
      obtain ⟨z, ez, h4⟩ := h2.ofO_bind
      exact ⟨ρ2, S2, w, w2, z, R2.st, r1.mono e2.kp e2.pre, r2, ez, h4.now R2.st _ (.d (.bl z))⟩
theorem t_cmpd {o : COp} {op : CmpOp} (S : Sd G Wx C k X) (ha : PE X a (RE G ex Wx C ia)) (hb : PE X b (RE G ex Wx C ib)) (hm : behindInMarks op b = false := by with_unfolding_all rfl) (ho : op = o.op := by rfl) :
    PT X (.Compare a [op] [b] pos) (RT G ex Wx C (.cmpd o ia ib)) := by
  subst ho
  exact (pt_cmpR (or_cmp (o := o) (G := G) (ex := ex) S.hK (by have := S.un; omega)) ha hb hm).of fun σ H Q ⟨ρ, η, St, R, h0⟩ => by
    replace h0 : Sat G (fun c d H => Wx c d σ H) ρ St H ((((evalP C ia).1 η St).bind fun x S1 => ((evalP C ib).1 η S1).bind fun y S2 => (ofO (cmpD o x y S2) S2).bind fun k S3 => .ok (W.d (.bl k)) S3).bind fun x S1 => ofO (truthy x S1) S1) _ := h0
    rw [Res.bind_assoc] at h0
    refine rd1 R h0 fun w v ρ1 S1 H1 R1 e1 r1 h1 => ?_
    rw [Res.bind_assoc] at h1
    refine rd1 R1 h1 fun w2 v2 ρ2 S2 H2 R2 e2 r2 h2 => ?_
    rw [Res.bind_assoc] at h2
    obtain ⟨z, ez, h4⟩ := h2.ofO_bind
    exact ⟨ρ2, S2, w, w2, z, R2.st, r1.mono e2.kp e2.pre, r2, ez, z, rfl, h4.now R2.st⟩
end
end RI
/-! RI25: dicts whose keys are numbers or texts. -/
namespace RI
open PySem PySem.Spec PyProof.Rows L2
section
variable {G : Wd} {ex : Ex} {Wx : L2.WX} {C : Ctx} {k : Nat} {X : Cx} {pos p p2 p3 apos : Pos} {x : Str} {i : Nat} {a b c : Expr} {ia ib ic : IE} {ρ : Rho} {S : Store} {H : Hp} {L : Addr → Prop}
/-- what is there, or not -/
def GotD (G : Wd) (L : Addr → Prop) (H : Hp) : Option D → Option V → Prop
  | some y, o' => ∃ u, o' = some u ∧ RelD G L H y u
  | none, o' => o' = none
theorem keyV_of {d : D} {key : Key} {v : V} (h : keyD d = some key) (r : RelD G L H d v) : v = kV key := by
  cases d with
  | int i => cases r; simp only [keyD] at h; cases h; rfl
  | str s => cases r; simp only [keyD] at h; cases h; rfl
  | _ => simp [keyD] at h
theorem keq_iff {d e : D} {x y : Key} (h1 : keyD d = some x) (h2 : keyD e = some y) : keq d e = decide (x = y) := by
  cases d with
  | int i =>
    simp only [keyD] at h1; cases h1
    cases e with
    | int j =>
      simp only [keyD] at h2; cases h2
      simp only [keq]
      by_cases q : i = j
      · subst q; simp
      · have : ¬ (Sum.inl i : Key) = Sum.inl j := fun z => q (Sum.inl.inj z)
        rw [decide_eq_false q, decide_eq_false this]
    | str s => simp only [keyD] at h2; cases h2; simp [keq]
    | _ => simp [keyD] at h2
  | str s =>
    simp only [keyD] at h1; cases h1
    cases e with
    | int j => simp only [keyD] at h2; cases h2; simp [keq]
    | str t =>
      simp only [keyD] at h2; cases h2
      simp only [keq]
      by_cases q : s = t
      · subst q; simp
      · have : ¬ (Sum.inr (Str' s) : Key) = Sum.inr (Str' t) := fun z => q (by
          have := Sum.inr.inj z
          simpa using this)
        rw [decide_eq_false q, decide_eq_false this]
    | _ => simp [keyD] at h2
  | _ => simp [keyD] at h1
theorem RelKs.look {d : D} {key : Key} (hk : keyD d = some key) : ∀ {kvs : List (D × D)} {ks : List (Key × V)}, RelKs G L H kvs ks → GotD G L H (dlook kvs d) (valV ks key)
  | _, _, .nil => rfl
  | _, _, .cons (k := k') (key := key') (x := x) (v := v) (kvs := kvs) (ks := ks) e r rs => by
    have ih := RelKs.look hk rs
    have q := keq_iff e hk
    by_cases z : key' = key
    · have hq : keq k' d = true := by rw [q]; exact decide_eq_true z
      have e1 : dlook ((k', x) :: kvs) d = some x := by simp [dlook, hq]
      rw [e1]
      exact ⟨v, valV_pos z, r⟩
    · have hq : keq k' d = false := by rw [q]; exact decide_eq_false z
      have e1 : dlook ((k', x) :: kvs) d = dlook kvs d := by simp [dlook, hq]
      rw [e1, valV_neg (p := (key', v)) z]
      exact ih
theorem RelKs.any {d : D} {key : Key} (hk : keyD d = some key) : ∀ {kvs : List (D × D)} {ks : List (Key × V)}, RelKs G L H kvs ks → (kvs.any fun p => keq p.1 d) = ks.any fun p => decide (p.1 = key)
  | _, _, .nil => rfl
  | _, _, .cons e r rs => by simp only [List.any_cons, RelKs.any hk rs, keq_iff e hk]
theorem RelKs.snoc {d y : D} {key : Key} {v : V} (hk : keyD d = some key) (ry : RelD G L H y v) : ∀ {kvs : List (D × D)} {ks : List (Key × V)}, RelKs G L H kvs ks → RelKs G L H (kvs ++ [(d, y)]) (ks ++ [(key, v)])
  | _, _, .nil => .cons hk ry .nil
  | _, _, .cons e r rs => .cons e r (RelKs.snoc hk ry rs)
theorem RelKs.repl {d y : D} {key : Key} {v : V} (hk : keyD d = some key) (ry : RelD G L H y v) : ∀ {kvs : List (D × D)} {ks : List (Key × V)}, RelKs G L H kvs ks → RelKs G L H (kvs.map fun p => if keq p.1 d = true then (p.1, y) else p) (ks.map fun p => if p.1 = key then (p.1, v) else p)
  | _, _, .nil => .nil
  | _, _, .cons (k := k') (key := key') (x := x) (v := v') (kvs := kvs) (ks := ks) e r rs => by
    have ih := RelKs.repl hk ry rs
    have q := keq_iff e hk
    simp only [List.map_cons]
    by_cases z : key' = key
    · have hq : keq k' d = true := by rw [q]; exact decide_eq_true z
      rw [if_pos hq, if_pos z]
      exact .cons e ry ih
    · have hq : ¬ keq k' d = true := by rw [q, decide_eq_false z]; simp
      rw [if_neg hq, if_neg z]
      exact .cons e r ih
theorem RelKs.put {d y : D} {key : Key} {v : V} {kvs : List (D × D)} {ks : List (Key × V)} (hk : keyD d = some key) (ry : RelD G L H y v) (r : RelKs G L H kvs ks) : RelKs G L H (dput kvs d y) (putK ks key v) := by
  unfold dput putK
  rw [r.any hk]
  split
  · exact r.repl hk ry
  · exact r.snoc hk ry
theorem RelKs.length : ∀ {kvs : List (D × D)} {ks : List (Key × V)}, RelKs G L H kvs ks → kvs.length = ks.length
  | _, _, .nil => rfl
  | _, _, .cons _ _ rs => by simp [RelKs.length rs]
theorem RelKs.keys : ∀ {kvs : List (D × D)} {ks : List (Key × V)}, RelKs G L H kvs ks → RelDs G L H (kvs.map (·.1)) (ks.map fun p => kV p.1)
  | _, _, .nil => .nil
  | _, _, .cons (k := k') e _ rs => .cons (by
      cases k' with
      | int i => simp only [keyD] at e; cases e; exact .int i
      | str s => simp only [keyD] at e; cases e; exact .str s
      | _ => simp [keyD] at e) (RelKs.keys rs)
theorem dic_of {w : W} {v : V} {kvs : List (D × D)} (R : RelS G ρ S H) (r : RelW G ex (Live ρ S) ρ H w v) (h : dicOf w S = some kvs) : ∃ a ks, v = .ref a ∧ H a = some (.dK ks) ∧ RelKs G (Live ρ S) H kvs ks := by
  unfold dicOf at h
  split at h
  · next kvs' =>
    cases h
    cases r with
    | d r => cases r with
      | dic h1 _ h2 => exact ⟨_, _, rfl, h1, h2⟩
  · next l =>
    split at h
    · next kvs' hc =>
      cases h
      cases r with
      | loc hl => cases R.cell _ _ _ hc hl with
        | dct h1 h2 => exact ⟨_, _, rfl, h1, h2⟩
    · cases h
  · cases h
/-- what a look-up tells -/
theorem dget_of {w w2 : W} {v v2 : V} {o : Option D} (R : RelS G ρ S H) (r : RelW G ex (Live ρ S) ρ H w v) (r2 : RelW G ex (Live ρ S) ρ H w2 v2) (h : dgetD w w2 S = some o) :
    ∃ a o', v = .ref a ∧ DGet H a v2 o' ∧ GotD G (Live ρ S) H o o' := by
  have key : ∃ d key kvs, w2 = .d d ∧ keyD d = some key ∧ dicOf w S = some kvs ∧ dlook kvs d = o := by
    unfold dgetD at h
    cases w2 with
    | d d =>
      simp only at h
      by_cases hk : (keyD d).isSome = true
      · rw [if_pos hk, Option.map_eq_some_iff] at h
        obtain ⟨key, hk⟩ := Option.isSome_iff_exists.mp hk
        obtain ⟨kvs, h1, h2⟩ := h
        exact ⟨d, key, kvs, rfl, hk, h1, h2⟩
      · rw [if_neg hk] at h
        cases h
    | _ => cases h
  obtain ⟨d, key, kvs, rfl, hk, h1, rfl⟩ := key
  obtain ⟨a, ks, rfl, hH, rk⟩ := dic_of R r h1
  have ev := keyV_of hk r2.d_inv
  subst ev
  exact ⟨a, valV ks key, rfl, DGet.k hH, rk.look hk⟩
theorem e_dix (S : Sd G Wx C k X) (ha : PE X a (RE G ex Wx C ia)) (hb : PE X b (RE G ex Wx C ib)) (hs : NoSl b := by exact fun _ _ => rfl) : PE X (.Subscript a b pos) (RE G ex Wx C (.dix ia ib)) :=
  (pe_dget (by have := S.un; omega) ha hb hs).of fun σ H Q ⟨ρ, η, St, R, h0⟩ => rd1 (f := fun x S1 => ((evalP C ib).1 η S1).bind fun y S2 => match dgetD x y S2 with
    | some (some z) => .ok (W.d z) S2
    | _ => .stk) R h0 fun w v ρ1 S1 H1 R1 e1 r1 h1 => rd1 R1 h1 fun w2 v2 ρ2 S2 H2 R2 e2 r2 h2 => by
      split at h2
      · next z hz =>
        obtain ⟨a, o', rfl, g, u, rfl, ru⟩ := dget_of R2.st (r1.mono e2.kp e2.pre) r2 hz
        exact ⟨a, u, rfl, g, h2.now R2.st _ (.d ru)⟩
      · exact h2.elim
theorem e_din (S : Sd G Wx C k X) (hb : PE X b (RE G ex Wx C ib)) (ha : PE X a (RE G ex Wx C ia)) (hm : behindInMarks .In a = false := by with_unfolding_all rfl) : PE X (.Compare b [.In] [a] pos) (RE G ex Wx C (.din false ib ia)) :=
  (pe_cmp (pc_din (by have := S.un; omega) hb ha) hm).of fun σ H Q ⟨ρ, η, St, R, h0⟩ => rd1 (f := fun y S1 => ((evalP C ia).1 η S1).bind fun x S2 => match dgetD x y S2 with
    | some o => .ok (W.d (.bl (if false then !o.isSome else o.isSome))) S2
    | none => .stk) R h0 fun w v ρ1 S1 H1 R1 e1 r1 h1 => rd1 R1 h1 fun w2 v2 ρ2 S2 H2 R2 e2 r2 h2 => by
      split at h2
      · next o ho =>
        obtain ⟨a, o', rfl, g, q⟩ := dget_of R2.st r2 (r1.mono e2.kp e2.pre) ho
        refine ⟨a, o', rfl, g, ?_⟩
        have : o'.isSome = o.isSome := by
          cases o with
          | some y => obtain ⟨u, rfl, _⟩ := q; rfl
          | none => rw [q]; rfl
        rw [this]
        exact h2.now R2.st _ (.d (.bl _))
      · exact h2.elim
theorem e_dnin (S : Sd G Wx C k X) (hb : PE X b (RE G ex Wx C ib)) (ha : PE X a (RE G ex Wx C ia)) (hm : behindInMarks .NotIn a = false := by with_unfolding_all rfl) : PE X (.Compare b [.NotIn] [a] pos) (RE G ex Wx C (.din true ib ia)) :=
  (pe_cmp (pc_dnotin (by have := S.un; omega) hb ha) hm).of fun σ H Q ⟨ρ, η, St, R, h0⟩ => rd1 (f := fun y S1 => ((evalP C ia).1 η S1).bind fun x S2 => match dgetD x y S2 with
    | some o => .ok (W.d (.bl (if true then !o.isSome else o.isSome))) S2
    | none => .stk) R h0 fun w v ρ1 S1 H1 R1 e1 r1 h1 => rd1 R1 h1 fun w2 v2 ρ2 S2 H2 R2 e2 r2 h2 => by
      split at h2
      · next o ho =>
        obtain ⟨a, o', rfl, g, q⟩ := dget_of R2.st r2 (r1.mono e2.kp e2.pre) ho
        refine ⟨a, o', rfl, g, ?_⟩
        have : o'.isSome = o.isSome := by
          cases o with
          | some y => obtain ⟨u, rfl, _⟩ := q; rfl
          | none => rw [q]; rfl
        rw [this]
        exact h2.now R2.st _ (.d (.bl _))
      · exact h2.elim
theorem e_dget (S : Sd G Wx C k X) (ha : PE X a (RE G ex Wx C ia)) (hb : PE X b (RE G ex Wx C ib)) (hc : PE X c (RE G ex Wx C ic)) (hbase : attributeBase a "get" X.env (eval a X.env) = eval a X.env := by rfl) (hline : (apos.endLine == pos.line) = true := by rfl)
    (htr : backTo pos (starEach [b, c] X.env) = [(false, eval b X.env), (false, eval c X.env)] := by rfl) : PE X (.Call (.Attribute a "get" apos) [b, c] [] pos) (RE G ex Wx C (.dget ia ib ic)) :=
  (pe_dget2 (by have := S.un; omega) ha hb hc ⟨hbase, by rw [htr]; rfl, hline, htr⟩).of fun σ H Q ⟨ρ, η, St, R, h0⟩ => rd1 (f := fun x S1 => if (dicOf x S1).isSome = true then ((evalP C ib).1 η S1).bind fun y S2 => ((evalP C ic).1 η S2).bind fun z S3 => match dgetD x y S3, z with
    | some o, .d z => .ok (W.d (o.getD z)) S3
    | _, _ => .stk else .stk) R h0 fun w v ρ1 S1 H1 R1 e1 r1 h1 => by
      split at h1
      · next hd =>
        obtain ⟨kvs, hd⟩ := Option.isSome_iff_exists.mp hd
        obtain ⟨a, ks, rfl, hH, _⟩ := dic_of R1.st r1 hd
        refine ⟨a, rfl, .inl ⟨_, .inl hH⟩, rd1 R1 h1 fun w2 v2 ρ2 S2 H2 R2 e2 r2 h2 => rd1 R2 h2 fun w3 v3 ρ3 S3 H3 R3 e3 r3 h3 => ?_⟩
        split at h3
        · next o z ho =>
          obtain ⟨a', o', ea, g, q⟩ := dget_of R3.st ((r1.mono e2.kp e2.pre).mono e3.kp e3.pre) (r2.mono e3.kp e3.pre) ho
          cases ea
          refine ⟨o', g, ?_⟩
          cases o with
          | some y => obtain ⟨u, rfl, ru⟩ := q; exact h3.now R3.st _ (.d ru)
          | none => rw [q]; exact h3.now R3.st _ r3
        · exact h3.elim
      · exact h1.elim
theorem e_dkeys (S : Sd G Wx C k X) (hcm : X.calm = true) (hg : Gl X "list") (ha : PE X a (RE G ex Wx C ia)) (na : starEach [a] X.env = (false, eval a X.env) :: starEach [] X.env := by rfl) (hpl : (backTo pos (starEach [] X.env)).any (·.1) = false := by rfl) :
    PE X (.Call (.Name "list" p) [a] [] pos) (RE G ex Wx C (.dkeys ia)) :=
  (pe_callTy (call_listD hcm) hg (S.bmg _ (by decide)) (by rfl) (pa_cons ha pa_nil na) (by decide) (by decide) na hpl).of fun σ H Q ⟨ρ, η, St, R, h0⟩ => rd1 (f := fun x S1 => match dicOf x S1 with
    | some kvs => .ok (W.d (.lst (kvs.map (·.1)))) S1
    | none => .stk) R h0 fun w v ρ1 S1 H1 R1 e1 r1 h1 => by
      split at h1
      · next kvs hd =>
        obtain ⟨a, ks, rfl, hH, rk⟩ := dic_of R1.st r1 hd
        refine ⟨a, ks, rfl, .inl hH, fun p hp => ?_⟩
        exact h1.after (Ext.newObj (o := .lst (ks.map fun kv => kV kv.1)) hp) (R1.st.newObj hp) _ (.d (.lst (upd_same ..) (R1.st.fresh hp) (rk.keys.mono (Ext.newObj (ρ := ρ1) (S := S1) hp).kp)))
      · exact h1.elim
theorem e_dlen (S : Sd G Wx C k X) (hg : Gl X "len") (ha : PE X a (RE G ex Wx C ia)) (na : starEach [a] X.env = (false, eval a X.env) :: starEach [] X.env := by rfl) (hpl : (backTo pos (starEach [] X.env)).any (·.1) = false := by rfl) :
    PE X (.Call (.Name "len" p) [a] [] pos) (RE G ex Wx C (.dlen ia)) :=
  (pe_callB call_lenD hg (S.bmg _ (by decide)) (by rfl) (pa_cons ha pa_nil na) (by decide) (by decide) na hpl).of fun σ H Q ⟨ρ, η, St, R, h0⟩ => rd1 (f := fun x S1 => match dicOf x S1 with
    | some kvs => .ok (W.d (.int kvs.length)) S1
    | none => .stk) R h0 fun w v ρ1 S1 H1 R1 e1 r1 h1 => by
      split at h1
      · next kvs hd =>
        obtain ⟨a, ks, rfl, hH, rk⟩ := dic_of R1.st r1 hd
        refine ⟨a, ks, rfl, hH, ?_⟩
        rw [← rk.length]
        exact h1.now R1.st _ (.d (.int _))
      · exact h1.elim
theorem e_dnew : PE X (.Dict [] [] pos) (RE G ex Wx C .dnew) :=
  pe_dnewK.of fun σ H Q ⟨ρ, η, S, R, h0⟩ p hp => by
    have h1 : Sat G (fun c d H => Wx c d σ H) ρ S H (.ok (W.loc S.length) (S ++ [.dct []])) _ := h0
    have hc : RelC G (Live (ρ.app [p]) (S ++ [.dct []])) (ρ.app [p]) (upd H p (.dK [])) (.dct []) p := .dct (upd_same ..) .nil
    refine h1 _ _ (Ext.newCell (c := .dct []) (o := .dK []) R.st hp) (R.st.newCell hp hc) _ (.loc ?_)
    show (ρ.l ++ [p])[S.length]? = some p
    rw [← R.st.len, List.getElem?_concat_length]
end
end RI
/-! RI26: d[k] = v; methods of own classes. -/
namespace RI
open PySem PySem.Spec PyProof.Rows L2
section
variable {G : Wd} {ex : Ex} {Wx : L2.WX} {C : Ctx} {k : Nat} {X : Cx} {pos p p2 p3 apos : Pos} {x : Str} {i : Nat} {a b c o e : Expr} {ia ib ic io ii : IE} {es : List Expr} {ies : IEs} {ρ : Rho} {S : Store} {H : Hp}
def rSetD (G : Wd) : TSet := fun o i v H Q => ∃ ρ S wo wi w, RelS G ρ S H ∧ RelW G none (Live ρ S) ρ H wo o ∧ RelW G none (Live ρ S) ρ H wi i ∧ RelW G none (Live ρ S) ρ H w v ∧
  Sat G noX ρ S H (noExc (setDic wo wi w S)) fun _ ρ' S' H' => Q H'
theorem set_d (hu : X.A.units + 1 < cLine) : PSet X (rSetD G) := by
  intro pins s σ H o i v ov iv u Q I ro ri rv ⟨ρ, St, wo, wi, w, R, r1, r2, r3, h⟩
  cases r1 with
  | loc hl =>
    rename_i l a
    cases r2 with
    | d rk =>
      rename_i d
      unfold setDic at h
      dsimp only at h
      by_cases hk : (keyD d).isSome = true
      · rw [if_pos hk] at h
        obtain ⟨key, hk⟩ := Option.isSome_iff_exists.mp hk
        cases hc : St[l]? with
        | none => rw [hc] at h; exact h.elim
        | some c =>
          rw [hc] at h
          cases c with
          | dct kvs =>
            dsimp only at h
            by_cases hlen : kvs.length < line
            · rw [if_pos hlen] at h
              cases w with
              | d y =>
                dsimp only at h
                cases r3 with
                | d ry =>
                  cases R.cell _ _ _ hc hl with
                  | dct hH rks =>
                    rename_i ks
                    have ev := keyV_of hk rk
                    subst ev
                    obtain rfl : ov = Value.ref a := ro
                    have e2 := Ext.setCell (c' := .dct (dput kvs d y)) (o := .dK (putK ks key v)) R hc rfl hl
                    refine d_setItem hu I (DPut.k hH (by rw [← rks.length]; exact hlen)) ri rv fun s' I' => ⟨_, I', ?_⟩
                    exact h ρ _ e2 (R.setCell hc rfl hl (.dct (upd_same ..) ((rks.put hk ry).mono e2.kp)))
              | _ => exact h.elim
            · rw [if_neg hlen] at h; exact h.elim
          | _ => exact h.elim
      · rw [if_neg hk] at h; exact h.elim
    | _ => exact h.elim
  | _ => exact h.elim
theorem g_dsub (S : Sd G Wx C k X) (ho : PE X o (RE G none Wx C io)) (hi : PE X e (RE G none Wx C ii))
    (ha : ∀ v, assign (.Subscript o e pos) X.env v = (do
      let ov ← holding [v] (eval o X.env)
      let iv ← holding [v, ov] (eval e X.env)
      standAt pos
      holding [v, ov, iv] (setItem ov iv v)
      release [v, ov, iv] []) := by intro _; rfl) : PG X (.Subscript o e pos) (RdG G (IT.names (.dsub io ii)) (setT C (.dsub io ii))) :=
  (pg_sub ho hi (set_d (G := G) (by have := S.un; omega)) ha).of fun v σ H Q ⟨ρ, η, St, w, R, r, h⟩ => by
    replace h : Sat G noX ρ St H (noExc (((evalP C io).1 η St).bind fun x S1 => ((evalP C ii).1 η S1).bind fun k S2 => (setDic x k w S2).bind fun _ S3 => .ok η S3)) _ := h
    rw [noExc_bind] at h
    refine ⟨ρ, η, St, R, (Sat.nx (W1 := noX) h.bindN).mono fun wo ρ1 S1 H1 _ _ ⟨e1, R1, h1⟩ vo ro => ?_⟩
    rw [noExc_bind] at h1
    refine ⟨ρ1, η, S1, R.mono e1 R1, (Sat.nx (W1 := noX) h1.bindN).mono fun wi ρ2 S2 H2 _ _ ⟨e2, R2, h2⟩ vi ri => ?_⟩
    rw [noExc_bind] at h2
    have R12 := (R.mono e1 R1).mono e2 R2
    exact ⟨ρ2, S2, wo, wi, w, R2, ro.mono e2.kp e2.pre, ri, (r.mono e1.kp e1.pre).mono e2.kp e2.pre, h2.bindN.mono fun _ ρ3 S3 H3 _ _ ⟨e3, R3, h3⟩ => h3.now R3 _ (R12.mono e3 R3) (SameBut.refl _ _)⟩
/-! ### methods -/
theorem methOf_inv {P : Prog} {m n f : Nat} {o : W} (h : methOf P m o n S = some f) : ∃ c d fd, clsOf o S = some c ∧ P.cls[c]? = some d ∧ lookN m d.meths = some f ∧ P.fns[f]? = some fd ∧ ordC P c = true ∧ noFld m o S = true ∧ n + 1 = fd.np := by
  unfold methOf at h
  cases e1 : clsOf o S with
  | none => rw [e1] at h; cases h
  | some c =>
    rw [e1] at h
    dsimp only at h
    cases e2 : P.cls[c]? with
    | none => rw [e2] at h; cases h
    | some d =>
      rw [e2] at h
      dsimp only at h
      cases e3 : lookN m d.meths with
      | none => rw [e3] at h; cases h
      | some g =>
        rw [e3] at h
        dsimp only at h
        cases e4 : P.fns[g]? with
        | none => rw [e4] at h; cases h
        | some fd =>
          rw [e4] at h
          dsimp only at h
          by_cases hc : ordC P c = true ∧ noFld m o S = true ∧ n + 1 = fd.np
          · rw [if_pos hc] at h
            cases h
            exact ⟨c, d, fd, rfl, e2, e3, e4, hc.1, hc.2.1, hc.2.2⟩
          · rw [if_neg hc] at h; cases h
theorem lookN_mem {α : Type} {m : Nat} {y : α} : ∀ {xs : List (Nat × α)}, lookN m xs = some y → (m, y) ∈ xs
  | [], h => by cases h
  | (j, z) :: r, h => by
    unfold lookN at h
    by_cases q : m = j
    · subst q
      rw [if_pos rfl] at h
      cases h
      simp
    · rw [if_neg q] at h
      exact List.mem_cons_of_mem _ (lookN_mem h)
theorem RelFw.noLook {L : Addr → Prop} {m : Nat} (hI : ∀ f g, G.nm f = G.nm g → f = g) : ∀ {fs : List (Nat × W)} {vs : List (Str × V)}, RelFw G L ρ H fs vs → lookN m fs = none → vs.lookup (G.nm m) = none
  | _, _, .nil, _ => rfl
  | _, _, .cons (f := g) h hs, e => by
    unfold lookN at e
    by_cases q : m = g
    · rw [if_pos q] at e; cases e
    · rw [if_neg q] at e
      rw [List.lookup_cons, show (G.nm m == G.nm g) = false from by
        rw [beq_eq_false_iff_ne]
        exact fun z => q (hI _ _ z)]
      exact RelFw.noLook hI hs e
theorem RelFs.noLook {L : Addr → Prop} {m : Nat} (hI : ∀ f g, G.nm f = G.nm g → f = g) : ∀ {fs : List (Nat × D)} {vs : List (Str × V)}, RelFs G L H fs vs → lookN m fs = none → vs.lookup (G.nm m) = none
  | _, _, .nil, _ => rfl
  | _, _, .cons (f := g) h hs, e => by
    unfold lookN at e
    by_cases q : m = g
    · rw [if_pos q] at e; cases e
    · rw [if_neg q] at e
      rw [List.lookup_cons, show (G.nm m == G.nm g) = false from by
        rw [beq_eq_false_iff_ne]
        exact fun z => q (hI _ _ z)]
      exact RelFs.noLook hI hs e
/-- the receiver -/
theorem recv_of {w : W} {v : V} {c m : Nat} (hx : G.exc c = false) (hI : ∀ f g, G.nm f = G.nm g → f = g) (R : RelS G ρ S H) (r : RelW G none (Live ρ S) ρ H w v) (e : clsOf w S = some c) (hn : noFld m w S = true) : ∃ a dx vs, v = .ref a ∧ H a = some (.ins (G.ca c) dx vs) ∧ vs.lookup (G.nm m) = none := by
  cases r with
  | d r =>
    cases r with
    | obj _ h nl hs =>
      cases e
      refine ⟨_, _, _, rfl, h, hs.noLook hI ?_⟩
      unfold noFld at hn
      simpa using hn
    | err h1 =>
      cases e
      rw [hx] at h1
      cases h1
    | _ => cases e
  | loc hl =>
    rename_i l a
    unfold clsOf at e
    dsimp only at e
    unfold noFld at hn
    dsimp only at hn
    cases hc : S[l]? with
    | none => rw [hc] at e; cases e
    | some cc =>
      rw [hc] at e hn
      cases cc with
      | ins c' fs =>
        cases e
        cases R.cell _ _ _ hc hl with
        | ins _ h hs => exact ⟨_, _, _, rfl, h, hs.noLook hI (by simpa using hn)⟩
      | _ => cases e
  | scr h => cases e
  | exn h => cases h
theorem e_meth {m : Nat} {n : Str} {ns : List Str} {pl : Sem Bool} (S : Sd G Wx C k X) (hcm : X.calm = true) (hnm : G.nm = nmOf ns) (hn : nmOf ns m = n) (ho : PE X o (RE G none Wx C io)) (ha : PA X (e :: es) (REs G none Wx C ies))
    (hst : starEach (e :: es) X.env = (false, eval e X.env) :: starEach es X.env := by rfl) (hpl : (backTo pos (starEach es X.env)).any (·.1) = false := by rfl)
    (ht : eval (.Call (.Attribute o n apos) (e :: es) [] pos) X.env = (do
      let ov ← eval o X.env
      standAt apos.atName
      let (f, first) ← holding [ov] (getMethod ov n pl)
      callWith pos f first (backTo pos (starEach (e :: es) X.env)) (backToKw pos (keywordEach [] X.env))) := by rfl) :
    PE X (.Call (.Attribute o n apos) (e :: es) [] pos) (RE G none Wx C (.meth io m ies)) := by
  have hn : G.nm m = n := by rw [hnm]; exact hn
  subst hn
  refine ⟨fun pins s σ H Q I ⟨ρ, η, St, R, h0⟩ => ?_⟩
  refine PySem.W.methodCall_KW (pl := pl) (thn (ho.run pins s σ H (fun x H1 => ∃ a c d f fd dx vs, x = .ref a ∧ C.P.cls[c]? = some d ∧ (m, f) ∈ d.meths ∧ C.P.fns[f]? = some fd ∧ ordC C.P c = true ∧ H1 a = some (.ins (G.ca c) dx vs) ∧ vs.lookup (G.nm m) = none ∧
    REs G none Wx C ies σ H1 fun us H2 => spF G (C.call f) fd.np (.ref a :: us) H2 Q (WE Wx σ)) I (rd1 (f := fun o S1 => match methOf C.P m o ies.len S1 with
      | some f => (evalEs C ies η S1).bind fun ws S2 => C.call f (o :: ws) S2
      | none => .stk) R h0 fun w v ρ1 S1 H1 R1 e1 r1 h1 => ?_)) fun u s1 ⟨x, H1, I1, rx, a, c, d, f, fd, dx, vs, ex, h1, h2, h3, h4, h5, h6, h7⟩ => ?_) ht
  · cases hm : methOf C.P m w ies.len S1 with
    | none => rw [hm] at h1; exact h1.elim
    | some f =>
      rw [hm] at h1
      obtain ⟨c, d, fd, q1, q2, q3, q4, q5, q6, q7⟩ := methOf_inv hm
      obtain ⟨a, dx, vs, rfl, hH, hl⟩ := recv_of (S.ordx q5) S.nmI R1.st r1 q1 q6
      refine ⟨a, c, d, f, fd, dx, vs, rfl, q2, lookN_mem q3, q4, q5, hH, hl, rd1n (f := fun ws S2 => C.call f (w :: ws) S2) R1 h1 fun ws us ρ2 S2 H2 R2 e2 r2 l2 h2 => ?_⟩
      exact spF_of R2.st (.cons (r1.mono e2.kp e2.pre) r2) (by rw [List.length_cons, r2.length, l2, q7]) h2
  · subst ex
    obtain rfl : u = Value.ref a := rx
    obtain ⟨fdat, ps, hps, F, hb⟩ := (S.fok f fd h3).ex
    have hM := S.mth c d m f h1 h4 h2
    refine getmeth_ok I1 h5 (S.clf c h4).cls hM h6 ?_
    refine PySem.W.callWith_K (first := [.ref a]) (h₀ := X.base) I.ok.mod.kin hM.kp (thn (ha.run pos pins s1 σ H1 _ I1 h7) fun us s2 ⟨vs2, H2, I2, r, q2⟩ => ⟨I2.kIn, ?_⟩) hst hpl
    exact FnG.call (us := .ref a :: us) (vs := .ref a :: vs2) F S.gd ((S.room hcm).mono (Nat.le_succ _)) hb (passAt S.tk σ) I2 (.cons rfl r) q2
theorem e_meth0 {m : Nat} {n : Str} {ns : List Str} {pl : Sem Bool} (S : Sd G Wx C k X) (hcm : X.calm = true) (hnm : G.nm = nmOf ns) (hn : nmOf ns m = n) (ho : PE X o (RE G none Wx C io))
    (ht : eval (.Call (.Attribute o n apos) [] [] pos) X.env = (do
      let ov ← eval o X.env
      standAt apos.atName
      let (f, first) ← holding [ov] (getMethod ov n pl)
      callWith pos f first (backTo pos (starEach [] X.env)) (backToKw pos (keywordEach [] X.env))) := by rfl) :
    PE X (.Call (.Attribute o n apos) [] [] pos) (RE G none Wx C (.meth io m .nil)) := by
  have hn : G.nm m = n := by rw [hnm]; exact hn
  subst hn
  refine ⟨fun pins s σ H Q I ⟨ρ, η, St, R, h0⟩ => ?_⟩
  refine PySem.W.methodCall_KW (pl := pl) (thn (ho.run pins s σ H (fun x H1 => ∃ a c d f fd dx vs, x = .ref a ∧ C.P.cls[c]? = some d ∧ (m, f) ∈ d.meths ∧ C.P.fns[f]? = some fd ∧ ordC C.P c = true ∧ H1 a = some (.ins (G.ca c) dx vs) ∧ vs.lookup (G.nm m) = none ∧
    spF G (C.call f) fd.np [.ref a] H1 Q (WE Wx σ)) I (rd1 (f := fun o S1 => match methOf C.P m o IEs.nil.len S1 with
      | some f => (evalEs C .nil η S1).bind fun ws S2 => C.call f (o :: ws) S2
      | none => .stk) R h0 fun w v ρ1 S1 H1 R1 e1 r1 h1 => ?_)) fun u s1 ⟨x, H1, I1, rx, a, c, d, f, fd, dx, vs, ex, h1, h2, h3, h4, h5, h6, h7⟩ => ?_) ht
  · cases hm : methOf C.P m w IEs.nil.len S1 with
    | none => rw [hm] at h1; exact h1.elim
    | some f =>
      rw [hm] at h1
      obtain ⟨c, d, fd, q1, q2, q3, q4, q5, q6, q7⟩ := methOf_inv hm
      obtain ⟨a, dx, vs, rfl, hH, hl⟩ := recv_of (S.ordx q5) S.nmI R1.st r1 q1 q6
      exact ⟨a, c, d, f, fd, dx, vs, rfl, q2, lookN_mem q3, q4, q5, hH, hl, spF_of R1.st (.cons r1 .nil) q7 h1⟩
  · subst ex
    obtain rfl : u = Value.ref a := rx
    obtain ⟨fdat, ps, hps, F, hb⟩ := (S.fok f fd h3).ex
    have hM := S.mth c d m f h1 h4 h2
    refine getmeth_ok I1 h5 (S.clf c h4).cls hM h6 ?_
    exact PySem.W.callWith_K0 (first := [.ref a]) I1.kIn hM.kp (FnG.call (us := [.ref a]) (vs := [.ref a]) F S.gd ((S.room hcm).mono (Nat.le_succ _)) hb (passAt S.tk σ) I1 (.cons rfl .nil) h7)
end
end RI
/-! RI27: written dicts; sorted lists of ints; reversed sequences; ranges downwards. -/
namespace RI
open PySem PySem.Spec PyProof.Rows L2
section
variable {G : Wd} {ex : Ex} {Wx : L2.WX} {C : Ctx} {k : Nat} {X : Cx} {pos p p2 p3 apos : Pos} {x : Str} {i : Nat} {a b c o e : Expr} {ia ib ic io ii : IE} {es : List Expr} {ies : IEs} {ρ : Rho} {S : Store} {H : Hp} {T : List (List Nat × D)}
theorem e_kget (S : Sd G Wx C k X) (hg : Gl X x) (h1 : C.P.tabs[i]? = some T) (h2 : C.P.tnm[i]? = some x) (hb : PE X b (RE G ex Wx C ib)) (hc : PE X c (RE G ex Wx C ic)) (hdb : (x == ("__debug__" : Str)) = false := by decide)
    (hbase : attributeBase (.Name x p) "get" X.env (eval (.Name x p) X.env) = eval (.Name x p) X.env := by rfl) (hline : (apos.endLine == pos.line) = true := by rfl)
    (htr : backTo pos (starEach [b, c] X.env) = [(false, eval b X.env), (false, eval c X.env)] := by rfl) : PE X (.Call (.Attribute (.Name x p) "get" apos) [b, c] [] pos) (RE G ex Wx C (.kget i ib ic)) := by
  obtain ⟨a, en, n, hm, hl, hk, hd, hv⟩ := S.tab i T x h1 h2
  refine ⟨fun pins s σ H Q I ⟨ρ, η, St, R, h0⟩ => ?_⟩
  refine wpAny_Call_method hbase (by rw [htr]; rfl) hline PySem.F.plainAttrs_dict PySem.F.slot_dict_get PySem.F.type_dict_get (thn ((pe_glob hg hm (v := .ref a) rfl hdb).run pins s σ H (fun x H1 => x = .ref a ∧ H1 = H) I ⟨rfl, rfl⟩) fun u s1 ⟨x, H1, I1, rx, ex, eH⟩ => ?_)
  subst ex
  subst eH
  obtain rfl : u = Value.ref a := rx
  have hM := PySem.W.mapOf_K (prog := X.prog) (w := X.w) I1.kIn hl hk
  refine ⟨hM.typeIs, fun b q => ?_, ?_⟩
  · cases q
    exact ⟨_, I1.kIn _ _ hl, rfl⟩
  · rw [htr]
    refine Calls.callWith_builtin rfl (Calls.evalArgs_plain (Calls.spliced_cons (thn (hb.run pins s1 σ _ (fun y H2 => ∃ s', y = .str (Str' s') ∧ RE G ex Wx C ic σ H2 fun z H3 => ∀ r : V, (match tabD T s' with
      | some d => ∀ L H, RelD G L H d r
      | none => r = z) → Q r H3) I1 (rd1 (f := fun x S1 => match x with
        | .d (.str s) => ((evalP C ic).1 η S1).bind fun z S2 => match z, C.P.tabs[i]? with
          | .d z, some T => .ok (W.d ((tabD T s).getD z)) S2
          | _, _ => .stk
        | _ => .stk) R h0 fun w v ρ1 S1 H1 R1 e1 r1 h3 => ?_)) fun iv s2 ⟨y, H2, I2, ry, s', ey, q2⟩ =>
      Calls.spliced_cons (thn (hc.run pins s2 σ H2 _ I2 q2) fun fv s3 ⟨z, H3, I3, rz, q3⟩ => Calls.spliced_nil ?_))))
    · cases w with
      | d dx =>
        cases dx with
        | str s0 =>
          cases r1 with
          | d r1 =>
            cases r1
            refine ⟨s0, rfl, rd1 R1 h3 fun w2 v2 ρ2 S2 H2 R2 e2 r2 h4 => ?_⟩
            intro r hr
            cases w2 with
            | d dz =>
              rw [h1] at h4
              dsimp only at h4
              cases ht : tabD T s0 with
              | some d =>
                rw [ht] at hr h4
                exact h4.now R2.st _ (.d (hr _ _))
              | none =>
                rw [ht] at hr h4
                subst hr
                exact h4.now R2.st _ r2
            | _ => exact h4.elim
        | _ => exact h3.elim
      | _ => exact h3.elim
    · have hM3 := PySem.W.mapOf_K (prog := X.prog) (w := X.w) I3.kIn hl hk
      subst ey
      obtain ⟨t, rfl⟩ := ry
      refine call_meetsIn PySem.F.slot_dict_get hM3.typeIs PySem.F.entry_dict_get (PySem.F.args_dict_get_3 _ _ _) (meets_dict_get_default (strKind X.prog X.w) a (strKind_is _ _ _ _) hd fv) ⟨_, hM3, ?_⟩
      have hs := hv s'
      cases ht : tabD T s' with
      | some d =>
        rw [ht] at hs q3
        obtain ⟨v, u, e1, e2, e3⟩ := hs
        rw [PySem.W.find_K hl e1]
        exact ⟨v, H3, I3.tok _, e2, q3 v e3⟩
      | none =>
        rw [ht] at hs q3
        rw [PySem.W.find_K hl hs]
        exact ⟨z, H3, I3.tok _, rz, q3 z rfl⟩
/-! ### sorted -/
theorem insI_perm (i : Int) : ∀ ns : List Int, (insI i ns).Perm (i :: ns)
  | [] => .refl _
  | j :: r => by
    unfold insI
    split
    · exact .refl _
    · exact ((insI_perm i r).cons j).trans (.swap ..)
theorem sortI_perm : ∀ ns : List Int, (sortI ns).Perm ns
  | [] => .refl _
  | n :: r => (insI_perm n (sortI r)).trans ((sortI_perm r).cons n)
theorem insI_rise (i : Int) : ∀ {ns : List Int}, ns.Pairwise (· ≤ ·) → (insI i ns).Pairwise (· ≤ ·)
  | [], _ => by simp [insI]
  | j :: r, h => by
    unfold insI
    rw [List.pairwise_cons] at h
    split
    · next hij =>
      rw [List.pairwise_cons]
      refine ⟨fun x hx => ?_, List.pairwise_cons.mpr h⟩
      rcases List.mem_cons.mp hx with rfl | hx
      · exact hij
      · exact Int.le_trans hij (h.1 x hx)
    · next hij =>
      rw [List.pairwise_cons]
      refine ⟨fun x hx => ?_, insI_rise i h.2⟩
      rcases List.mem_cons.mp ((insI_perm i r).mem_iff.mp hx) with rfl | hx
      · omega
      · exact h.1 x hx
theorem sortI_rise : ∀ ns : List Int, (sortI ns).Pairwise (· ≤ ·)
  | [] => .nil
  | n :: r => insI_rise n (sortI_rise r)
theorem sortI_only {ms ns : List Int} (h : ms.Perm ns) (h1 : ms.Pairwise (· ≤ ·)) : ms = sortI ns :=
  List.Perm.eq_of_pairwise (le := (· ≤ ·)) (fun _ _ _ _ a b => Int.le_antisymm a b) h1 (sortI_rise ns) (h.trans (sortI_perm ns).symm)
theorem e_srt (S : Sd G Wx C k X) (hg : Gl X "sorted") (ha : PE X a (RE G ex Wx C ia)) (na : starEach [a] X.env = (false, eval a X.env) :: starEach [] X.env := by rfl) (hpl : (backTo pos (starEach [] X.env)).any (·.1) = false := by rfl) :
    PE X (.Call (.Name "sorted" p) [a] [] pos) (RE G ex Wx C (.srt ia)) :=
  (pe_callB cr_sorted hg (S.bmg _ (by decide)) (by rfl) (pa_cons ha pa_nil na) (by decide) (by decide) na hpl).of fun σ H Q ⟨ρ, η, St, R, h0⟩ => rd1 (f := fun x S1 => match (lstOf x S1).bind intsOf with
    | some ns => if ns.length < 64 then .ok (W.d (.lst ((sortI ns).map .int))) S1 else .stk
    | none => .stk) R h0 fun w v ρ1 S1 H1 R1 e1 r1 h1 => by
      cases hm : (lstOf w S1).bind intsOf with
      | none => rw [hm] at h1; exact h1.elim
      | some ns =>
        rw [hm] at h1
        dsimp only at h1
        by_cases hl : ns.length < 64
        · rw [if_pos hl] at h1
          rw [Option.bind_eq_some_iff] at hm
          obtain ⟨xs, e2, e3⟩ := hm
          obtain ⟨a, vs, rfl, hH, rs⟩ := r1.lstOf R1.st e2
          have ev := rs.ofInts e3
          subst ev
          refine ⟨a, ns, rfl, SqL.of hH, hl, fun ms p hp1 hp2 hp => ?_⟩
          have := sortI_only hp1 hp2
          subst this
          exact h1.after (Ext.newObj (o := .lst ((sortI ns).map V.int)) hp) (R1.st.newObj hp) _ (.d (.lst (upd_same ..) (R1.st.fresh hp) (RelDs.ints _)))
        · rw [if_neg hl] at h1; exact h1.elim
end
end RI
/-! RI28: the written dicts of a module, as the head tells them. -/
namespace RI
open PySem PySem.Spec PyProof.Rows L2
section
variable {K : PySem.W.Frag} {w : World} {a : Addr} {h : Heap} {mg : Str → Option Value} {P : Prog} {ds : List He.DefD} {ns : List Str}
theorem dicW_keys {ks : List Str} (h : He.dicW K a = some (He.keysIn w.params ks)) : ∃ es n, K.lookup a = some ⟨.type "dict", none, .dict es n, #[]⟩ ∧ PySem.W.KeysLit w.params es.toList ∧ (a == sysModules) = false ∧ es.toList.map He.keyOf = He.keysIn w.params ks := by
  obtain ⟨es, n, q, k, low⟩ := He.dicW_ok h
  refine ⟨es, n, q, k, low, ?_⟩
  unfold He.dicW at h
  rw [q] at h
  simpa [low] using h
theorem keyOf_in {P : Params} {ks : List Str} {es : List DictEntry} (hk : es.map He.keyOf = He.keysIn P ks) : ∀ e ∈ es, ∃ x t, e.key = .str x t ∧ x ∈ ks := by
  intro e he
  have h1 : He.keyOf e ∈ He.keysIn P ks := by rw [← hk]; exact List.mem_map_of_mem he
  simp only [He.keysIn, List.mem_map] at h1
  obtain ⟨x, hx, e1⟩ := h1
  unfold He.keyOf at e1
  split at e1
  · next y t q =>
    have := Option.some.inj e1
    injection this with e2 e3
    subst e2
    exact ⟨_, t, q, hx⟩
  · cases e1
theorem nsIn_none {ks : List Str} {es : Array DictEntry} {n : Nat} {s : Str} {Pm : Params} (hl : K.lookup a = some ⟨.type "dict", none, .dict es n, #[]⟩) (hk : es.toList.map He.keyOf = He.keysIn Pm ks) (hs : s ∉ ks) : PySem.W.nsIn K a s = some none := by
  have hall := keyOf_in hk
  unfold PySem.W.nsIn
  rw [hl]
  dsimp only
  have h1 : es.toList.find? (fun d : DictEntry => d.key.isStr s) = none := by
    rw [List.find?_eq_none]
    intro e he
    obtain ⟨x, t, q, hx⟩ := hall e he
    rw [q]
    intro z
    have : x = s := by
      simpa [Value.isStr] using z
    exact hs (this ▸ hx)
  have h2 : es.toList.any (fun d : DictEntry => d.refKey) = false := by
    rw [List.any_eq_false]
    intro e he
    obtain ⟨x, t, q, hx⟩ := hall e he
    simp [DictEntry.refKey, q]
  rw [h1]
  dsimp only
  rw [h2]
  rfl
theorem hts_of (X : K.In h) (G : h.Ns mainGlobals mg) (c : He.SaysT [] ds (tabsOf P) w K) (hb : tabsB P K = true) : ∀ (i : Nat) T x, P.tabs[i]? = some T → P.tnm[i]? = some x → TabF (wdOf P ds ns K) K w mg T x := by
  intro i T x h1 h2
  have hz : (P.tabs.zip P.tnm)[i]? = some (T, x) := List.getElem?_zip_eq_some.mpr ⟨h1, h2⟩
  have hm := List.mem_of_getElem? hz
  have hb1 := List.all_eq_true.mp hb _ hm
  rw [Bool.and_eq_true] at hb1
  obtain ⟨b1, b2⟩ := hb1
  dsimp only at b1 b2
  have hmg : mg x = some (.ref (He.ga K x)) := by
    cases e : PySem.W.nsIn K mainGlobals x with
    | none => rw [e] at b1; cases b1
    | some o =>
      rw [e] at b1
      cases o with
      | none => cases b1
      | some u =>
        cases u with
        | ref a =>
          have := of_decide_eq_true b1
          subst this
          exact ns_at X G e
        | _ => cases b1
  have ht : (tabsOf P)[i]? = some (fun K => He.ga K x, T.map fun p => Str' p.1) := by
    unfold tabsOf
    rw [List.getElem?_map, hz]
    rfl
  have hd : He.dicW K (He.ga K x) = some (He.keysIn w.params (T.map fun p => Str' p.1)) := by
    have e : (tabsOf P).map (fun t => He.dicW K (t.1 K)) = (tabsOf P).map fun t => some (He.keysIn w.params t.2) := congrArg (fun z : He.AlT => z.2) c
    have e2 : ((tabsOf P).map fun t => He.dicW K (t.1 K))[i]? = ((tabsOf P).map fun t => some (He.keysIn w.params t.2))[i]? := by rw [e]
    rw [List.getElem?_map, List.getElem?_map, ht] at e2
    exact Option.some.inj e2
  obtain ⟨es, n, q1, q2, q3, q4⟩ := dicW_keys hd
  refine ⟨He.ga K x, es, n, hmg, q1, q2, q3, fun s => ?_⟩
  unfold tabD
  cases hf : T.find? (fun p => decide (p.1 = s)) with
  | some p =>
    simp only [Option.map_some]
    have hp := List.mem_of_find?_eq_some hf
    have hs : p.1 = s := by simpa using List.find?_some hf
    have := List.all_eq_true.mp b2 p hp
    rw [hs] at this
    cases e : PySem.W.nsIn K (He.ga K x) (Str' s) with
    | none => rw [e] at this; cases this
    | some o =>
      rw [e] at this
      cases o with
      | none => cases this
      | some u =>
        obtain ⟨v, r, hr⟩ := cB_ok (G := wdOf P ds ns K) this
        exact ⟨v, u, rfl, r, hr⟩
  | none =>
    simp only [Option.map_none]
    refine nsIn_none q1 q4 fun hmem => ?_
    obtain ⟨p, hp, e⟩ := List.mem_map.mp hmem
    have := List.find?_eq_none.mp hf p hp
    simp at this
    exact this (str_inj e)
end
end RI
/-! RI29: four names at once: the tuple is made and taken apart; its items may be written later. -/
namespace RI
open PySem PySem.Spec PyProof.Rows L2
section
variable {G : Wd} {ex : Ex} {E : XK} {C : Ctx} {k : Nat} {X : Cx} {pos p p2 apos tpos pos' : Pos} {x : Str} {i : Nat} {a b c e o tg : Expr} {ia ib ie io ii : IE}
theorem fn_or {x : Str} (h : (X.fn x || isLocB X.env.scope x) = true) : X.fn x = true ∨ X.env.scope.names.lookup x = some .local := by
  rcases Bool.or_eq_true_iff.mp h with h | h
  · exact .inl h
  · exact .inr (isLoc_of h)
theorem setNs4 {i j l q : Nat} {ws : List W} {η η1 : Env} (h : setNs [i, j, l, q] ws η = some η1) : ∃ a b c d, ws = [a, b, c, d] ∧ i < η.length ∧ j < η.length ∧ l < η.length ∧ q < η.length ∧ η1 = (((η.set i (some a)).set j (some b)).set l (some c)).set q (some d) := by
  rcases ws with _ | ⟨a, _ | ⟨b, _ | ⟨c, _ | ⟨d, _ | ⟨e, r⟩⟩⟩⟩⟩ <;> simp [setNs] at h
  obtain ⟨h1, h2, h3, h4, rfl⟩ := h
  exact ⟨a, b, c, d, rfl, h1, h2, h3, h4, rfl⟩
theorem s_par4 {j l q : Nat} {d : Expr} {y z u : Str} {px py pz pu pt : Pos} {kt k2 pt2} {es : IEs} (S : Sd G (wE E) C k X) (hcm : X.calm = true) (hi : X.N[i]? = some x) (hj : X.N[j]? = some y) (hl : X.N[l]? = some z) (hq : X.N[q]? = some u) (ha : PA X [a, b, c, d] (REs G none (wE E) C es))
    (hx : locB X.env.scope x = true) (hy : locB X.env.scope y = true) (hz : locB X.env.scope z = true) (hu : locB X.env.scope u = true)
    (fx : (X.fn x || isLocB X.env.scope x) = true) (fy : (X.fn y || isLocB X.env.scope y) = true) (fz : (X.fn z || isLocB X.env.scope z) = true) (fu : (X.fn u || isLocB X.env.scope u) = true)
    (h4 : es.len = 4 := by rfl)
    (hs : swapsWithSole [.Tuple [.Name x px, .Name y py, .Name z pz, .Name u pu] kt pt] (.Tuple [a, b, c, d] k2 pt2) pos.line X.env = pure false := by rfl)
    (hw : swappedStores [.Tuple [.Name x px, .Name y py, .Name z pz, .Name u pu] kt pt] (.Tuple [a, b, c, d] k2 pt2) X.env = pure none := by rfl) :
    PS X (.Assign [.Tuple [.Name x px, .Name y py, .Name z pz, .Name u pu] kt pt] (.Tuple [a, b, c, d] k2 pt2) pos) (RS G E C (.par [i, j, l, q] es)) :=
  (ps_asg (pe_tup ha) (pg_tup hcm (pgs_cons (pg_name S.nd hi (loc_of hx) (fn_or fx)) (pgs_cons (pg_name S.nd hj (loc_of hy) (fn_or fy)) (pgs_cons (pg_name S.nd hl (loc_of hz) (fn_or fz)) (pgs_cons (pg_name S.nd hq (loc_of hu) (fn_or fu)) pgs_nil))))) hs hw).of fun D σ H ⟨ρ, η, St, R, h⟩ =>
    rd1n (Wx := wE E) (f := fun ws S1 => (ofO (setNs [i, j, l, q] ws η) S1).bind fun η1 S2 => Res.ok (Flow.nx η1) S2) R h fun ws vs ρ1 S1 H1 R1 e1 r1 l1 h1 => by
    obtain ⟨η1, e, h2⟩ := h1.ofO_bind
    obtain ⟨wa, wb, wc, wd, rfl, g1, g2, g3, g4, rfl⟩ := setNs4 e
    cases r1 with
    | @cons _ va _ _ ra r1 =>
      cases r1 with
      | @cons _ vb _ _ rb r1 =>
        cases r1 with
        | @cons _ vc _ _ rc r1 =>
          cases r1 with
          | @cons _ vd _ _ rd r1 =>
            cases r1
            refine ⟨by simp; decide, fun p hp => ?_⟩
            have e2 := Ext.newObj (ρ := ρ1) (S := S1) (o := .tup [va, vb, vc, vd]) hp
            have R2 := R1.mono e2 (R1.st.newObj hp)
            refine ⟨p, _, rfl, .inl (.inl (upd_same ..)), rfl, _, _, rfl, _, _, rfl, _, _, rfl, _, _, rfl, rfl, ?_⟩
            exact (h2.from e2).now R2.st _ ((((R2.set (ra.mono e2.kp e2.pre) g1).set (rb.mono e2.kp e2.pre) (by simpa using g2)).set (rc.mono e2.kp e2.pre) (by simpa using g3)).set (rd.mono e2.kp e2.pre) (by simpa using g4))
end
end RI
/-! RI30: xs[::-1] of lists and tuples. -/
namespace HT
open PySem PySem.Spec PyProof.Rows
section
variable {prog : Program} {w : World} {A : Around} {E : Value → Shared → Prop} {s : Shared}
theorem fm_congr {α β : Type} {f g : α → Option β} : ∀ {l : List α}, (∀ x ∈ l, f x = g x) → l.filterMap f = l.filterMap g
  | [], _ => rfl
  | a :: l, h => by
    rw [List.filterMap_cons, List.filterMap_cons, h a (by simp), fm_congr fun x hx => h x (by simp [hx])]
theorem adjust_rev (n : Nat) : Builtin.Slice.sliceAdjust none none (-1) (n : Int) = ((n : Int) - 1, -1) := by
  have h1 : ((-1 : Int) < 0) := by omega
  unfold Builtin.Slice.sliceAdjust
  simp only [h1, if_true]
theorem places_rev (n : Nat) : Builtin.Slice.slicePlaces ((n : Int) - 1) (-1) (-1) = n := by
  unfold Builtin.Slice.slicePlaces
  have h1 : ¬ (-1 : Int) > 0 := by omega
  simp only [h1, if_false]
  have e : (-(-1) : Int) = 1 := by decide
  rw [e, Int.ediv_one]
  split <;> omega
theorem pick_rev (xs : Array Value) : ((List.range xs.size).filterMap fun (k : Nat) => xs[(((xs.size : Int) - 1) + (k : Int) * -1).toNat]?).toArray = xs.toList.reverse.toArray := by
  congr 1
  apply List.ext_getElem?
  intro i
  have e : (List.range xs.size).filterMap (fun (k : Nat) => xs[(((xs.size : Int) - 1) + (k : Int) * -1).toNat]?) = xs.toList.reverse := by
    have h1 : (List.range xs.size).filterMap (fun (k : Nat) => xs[(((xs.size : Int) - 1) + (k : Int) * -1).toNat]?) = ((List.range xs.size).map fun k => xs.size - 1 - k).filterMap (xs[·]?) := by
      rw [List.filterMap_map]
      refine fm_congr fun k hk => ?_
      have hk := List.mem_range.mp hk
      show xs[_]? = xs[xs.size - 1 - k]?
      congr 1
      omega
    rw [h1, PySem.W.krv_range, List.filterMap_reverse, PySem.W.krv_all]
  rw [e]
theorem applied_rev {sl : Addr} {vs : Value} {n : Nat} {Q : Int × Int × Nat → Shared → Prop} (hs : s.heap.IsSliceOf sl .none .none vs) (pk : IsPart vs (some (-1)))
    (h : Q ((n : Int) - 1, -1, n) s) : wpAny (model prog w) A (Builtin.Slice.sliceApplied (.ref sl) (pure (n : Int))) Q E s := by
  obtain ⟨os, hos, hcs, hds⟩ := id hs
  unfold Builtin.Slice.sliceApplied Builtin.Slice.sliceFields
  refine wpAny_bind (wpAny_bind (wpAny_field hos hds (x := .none) rfl (wpAny_bind (wpAny_field hos hds (x := .none) rfl (wpAny_bind (wpAny_field hos hds (x := vs) rfl (wpAny_pure ?_)))))))
  refine wpAny_bind (slicePart_ pk ?_)
  show wpAny _ _ (if ((-1 : Int) == 0) = true then _ else _) _ _ s
  rw [if_neg (by decide)]
  refine wpAny_bind (slicePart_none (wpAny_bind (slicePart_none (wpAny_bind (wpAny_pure ?_)))))
  show wpAny _ _ (match Builtin.Slice.sliceAdjust none none (-1) (n : Int) with | (lo, hi) => pure (lo, (-1 : Int), Builtin.Slice.slicePlaces lo hi (-1))) _ _ s
  rw [adjust_rev]
  show wpAny _ _ (pure (((n : Int) - 1), (-1 : Int), Builtin.Slice.slicePlaces ((n : Int) - 1) (-1) (-1))) _ _ s
  rw [places_rev]
  exact wpAny_pure h
theorem getItem_tuple_rev {t sl : Addr} {items : Array Value} {vs : Value} {Q : Value → Shared → Prop} (ht : IsTup s.heap t items) (hs : s.heap.IsSliceOf sl .none .none vs) (pk : IsPart vs (some (-1)))
    (h : Q (.ref s.heap.objs.size) { s with heap := s.heap.push { cls := .type "tuple", data := .seq items.toList.reverse.toArray } })
    (hsz : items.size ≤ sizeLine) : wpAny (model prog w) A (getItem (.ref t) (.ref sl)) Q E s := by
  have htake : sizeOk (.seq items.toList.reverse.toArray) := by
    show items.toList.reverse.toArray.size ≤ sizeLine
    rw [List.size_toArray, List.length_reverse, Array.length_toList]
    exact hsz
  obtain ⟨os, hos, hcs, hds⟩ := id hs
  have hTs : s.TypeIs (.ref sl) "slice" := ⟨os, hos, hcs⟩
  unfold getItem
  try with_reducible refine wpAny_holding ?_
  first | refine wpAny_bind (wpAny_pure ?_) | skip
  refine wpAny_bind (wpAny_sequenceKey ht.typeIs (by decide) ?_)
  refine wpAny_bind (wpAny_callSpecial?_slot (name := Str.ofString "__getitem__") ht.typeIs PyProof.Rows.slot_tuple_getitem
    (wpAny_call_entry PyProof.Rows.slot_tuple_getitem ht.typeIs entry_tuple_getitem ?_ (args_tuple_getitem _ _)))
  show wpAny _ _ (Builtin.Tuple.tupleItemsOf (.ref t) >>= _) _ _ s
  refine wpAny_bind (tupleItemsOf_ ht ?_)
  refine wpAny_bind (wpAny_typeOf hTs ?_)
  rw [if_pos (by decide)]
  refine wpAny_bind (applied_rev hs pk ?_)
  have hno : ¬ ((((items.size : Int) - 1) == 0 && (-1 : Int) == 1 && items.size == items.size) = true) := by
    rw [show ((-1 : Int) == 1) = false from rfl, Bool.and_false, Bool.false_and]
    exact Bool.false_ne_true
  show wpAny _ _ (if (((items.size : Int) - 1) == 0 && (-1 : Int) == 1 && items.size == items.size) = true then _ else _) _ _ s
  rw [if_neg hno, pick_rev]
  first
    | exact wpAny_bind (m := Builtin.Tuple.tupleExact _) (wpAny_newObj_type (wpAny_pure ⟨_, rfl, wpAny_pure h⟩) htake)
    | exact wpAny_bind (m := Builtin.Tuple.tupleExact _) (wpAny_newObj_type (wpAny_bind (wpAny_pure (wpAny_pure ⟨_, rfl, wpAny_pure h⟩))) htake)
    | exact wpAny_bind (wpAny_bind (m := Builtin.Tuple.tupleExact _) (wpAny_newObj_type (wpAny_pure (wpAny_pure ⟨_, rfl, wpAny_pure h⟩)) htake))
    | exact wpAny_bind (wpAny_bind (m := Builtin.Tuple.tupleExact _) (wpAny_newObj_type (wpAny_pure ⟨_, rfl, wpAny_pure h⟩) htake))
end
end HT

namespace RI
open PySem PySem.Spec PyProof.Rows L2
def tRevT (K : PySem.W.Frag) (te : TE) : TE := fun σ H Q => te σ H fun x H1 => ∃ a xs, x = .ref a ∧ ((SqL K H1 a xs ∧ ∀ p, H1 p = none → Q (.ref p) (upd H1 p (.lst xs.reverse))) ∨ (SqT K H1 a xs ∧ ∀ p u, H1 p = none → NT xs.reverse u → Q (.ref p) (upd H1 p u)))
section
variable {X : Cx}
theorem pe_revT {e : Expr} {te : TE} {k : Nat} {p1 p2 p3 pos : Pos} (he : PE X e te) : PE X (.Subscript e (.Slice none none (some (.UnaryOp .USub (.Constant (.int 1) k p1) p2)) p3) pos) (tRevT X.K te) := by
  refine ⟨fun pins s σ H Q I h => ?_⟩
  refine Subscript_ (thn (he.run pins s σ H _ I h) fun v s1 ⟨x, H1, I1, r1, q1⟩ => ?_)
  obtain ⟨a, xs, ex, q1⟩ := q1
  subst ex
  cases r1
  have hst : PO X (some (.UnaryOp .USub (.Constant (.int 1) k p1) p2)) (tPart (tUn (rU fun i => .int (-i)) (tC (.int 1)))) := po_some (pe_un un_neg pe_int)
  refine wpAny_Slice (thn (po_none.run pins s1 σ H1 (fun o H2 => o = none ∧ H2 = H1) I1 ⟨rfl, rfl⟩) fun vl s2 ⟨l, H2, I2, pl, el, e2⟩ => ?_)
  subst el e2
  refine thn (po_none.run pins s2 σ H2 (fun o H3 => o = none ∧ H3 = H2) I2 ⟨rfl, rfl⟩) fun vu s3 ⟨u, H3, I3, pu, eu, e3⟩ => ?_
  subst eu e3
  refine thn (hst.run pins s3 σ H3 (fun o H4 => o = some (-1) ∧ H4 = H3) I3 ⟨1, rfl, -1, rfl, rfl, rfl⟩) fun vs s4 ⟨o, H4, I4, ps, eo, e4⟩ => ?_
  subst eo e4
  have I5 : Inv X pins σ H4 { s4 with heap := s4.heap.push { cls := .type "slice", data := .fields #[vl, vu, vs] } } := I4.kept (t' := s4.toks) fun b ob q => Heap.get?_push_of_some _ q
  rcases q1 with ⟨hx, q⟩ | ⟨hx, q⟩
  · obtain ⟨its, r, ht, hz⟩ := I5.list hx
    have hlen := r.length
    show wpAny (model X.prog X.w) X.A (subscriptTail e (.Slice none none (some (.UnaryOp .USub (.Constant (.int 1) k p1) p2)) p3) (.ref a) (.ref s4.heap.objs.size)) (EP X pins σ Q) X.xe { s4 with heap := s4.heap.push { cls := .type "slice", data := .fields #[vl, vu, vs] } }
    refine tail_any (ops := [.ref a, .ref s4.heap.objs.size]) ht.isList.typeIs (PySem.slot_list_getitem.lookup) ?_ (by with_unfolding_all rfl)
    refine wpAny_getItem_list_slice ht.isList (Heap.IsSliceOf.new _ vl vu vs) pl pu ps (by decide) ?_ (by rw [List.size_toArray]; omega)
    rw [PySem.W.krv_pick]
    refine ⟨.ref _, _, I5.laid (t' := s4.toks) (o := .lst xs.reverse) (fun b ob q => Heap.get?_push_of_some _ q) (Nat.le_refl _) ?_, rfl, q _ (I5.hok.fresh (Nat.le_refl _))⟩
    exact ⟨by rw [List.length_reverse]; exact hz, _, 0, r.reverse, Heap.get?_push_size _ rfl⟩
  · obtain ⟨its, r, ht, hz⟩ := I5.tuple hx
    have hlen := r.length
    cases pl
    cases pu
    show wpAny (model X.prog X.w) X.A (subscriptTail e (.Slice none none (some (.UnaryOp .USub (.Constant (.int 1) k p1) p2)) p3) (.ref a) (.ref s4.heap.objs.size)) (EP X pins σ Q) X.xe { s4 with heap := s4.heap.push { cls := .type "slice", data := .fields #[.none, .none, vs] } }
    refine tail_any (ops := [.ref a, .ref s4.heap.objs.size]) ht.typeIs (PyProof.Rows.slot_tuple_getitem.lookup) ?_ (by with_unfolding_all rfl)
    refine HT.getItem_tuple_rev ht (Heap.IsSliceOf.new _ .none .none vs) ps ?_ (by rw [List.size_toArray]; omega)
    refine ⟨.ref _, _, I5.laid (t' := s4.toks) (o := .frz (tupO its.toArray.toList.reverse) (.tup xs.reverse)) (fun b ob q => Heap.get?_push_of_some _ q) (Nat.le_refl _) ?_, rfl, q _ _ (I5.hok.fresh (Nat.le_refl _)) .new⟩
    exact tupO_ok (by rw [List.length_reverse]; exact hz) r.reverse (Heap.get?_push_size _ rfl)
end
section
variable {G : Wd} {ex : Ex} {Wx : L2.WX} {C : RI.Ctx} {k : Nat} {X : Cx} {pos p1 p2 p3 : Pos} {a : Expr} {ia : IE}
theorem RelDs.append1 {L : Addr → Prop} {H : Hp} {xs : List D} {vs : List V} {x : D} {v : V} (h : RelDs G L H xs vs) (h1 : RelD G L H x v) : RelDs G L H (xs ++ [x]) (vs ++ [v]) := h.append (.cons h1 .nil)
theorem RelDs.reverse {L : Addr → Prop} {H : Hp} : ∀ {xs : List D} {vs : List V}, RelDs G L H xs vs → RelDs G L H xs.reverse vs.reverse
  | _, _, .nil => .nil
  | _, _, .cons a h => by
    rw [List.reverse_cons, List.reverse_cons]
    exact (RelDs.reverse h).append1 a
theorem e_rev {kk : Nat} (S : Sd G Wx C k X) (ha : PE X a (RE G ex Wx C ia)) : PE X (.Subscript a (.Slice none none (some (.UnaryOp .USub (.Constant (.int 1) kk p1) p2)) p3) pos) (RE G ex Wx C (.rev ia)) :=
  (pe_revT ha).of fun σ H Q ⟨ρ, η, St, R, h0⟩ => rd1 (f := fun x S1 => match x with
    | .d (.tup xs) => if xs.length ≤ 1000 then .ok (W.d (.tup xs.reverse)) S1 else .stk
    | .d (.lst xs) => if xs.length ≤ 1000 then .ok (W.d (.lst xs.reverse)) S1 else .stk
    | _ => .stk) R h0 fun w v ρ1 S1 H1 R1 e1 r1 h1 => by
      split at h1
      · next xs =>
        by_cases hc : xs.length ≤ 1000
        · rw [if_pos hc] at h1
          obtain ⟨a, vs, rfl, hk, hs⟩ := r1.seqOf R1.st (k := .tup) (xs := xs) rfl
          rcases hk with ⟨_, hk⟩ | ⟨z, _⟩
          · refine ⟨a, vs, rfl, .inr ⟨by rw [S.hK]; exact hk.sq, fun p u hp hu => ?_⟩⟩
            exact (h1.from (Ext.newObj (o := u) hp)).now (R1.st.newObj hp) _ (.d (RelD.newTup R1.st hp hu hs.reverse))
          · cases z
        · rw [if_neg hc] at h1; exact h1.elim
      · next xs =>
        by_cases hc : xs.length ≤ 1000
        · rw [if_pos hc] at h1
          obtain ⟨a, vs, rfl, hk, hs⟩ := r1.seqOf R1.st (k := .lst) (xs := xs) rfl
          rcases hk with ⟨z, _⟩ | ⟨_, hk⟩
          · cases z
          · refine ⟨a, vs, rfl, .inl ⟨by rw [S.hK]; exact hk, fun p hp => ?_⟩⟩
            exact (h1.from (Ext.newObj (o := .lst vs.reverse) hp)).now (R1.st.newObj hp) _ (.d (RelD.newLst R1.st hp hs.reverse))
        · rw [if_neg hc] at h1; exact h1.elim
      · exact h1.elim
end
end RI
/-! RI31: dict(xs), xs a list of pairs. -/
namespace RI
open PySem PySem.Spec PyProof.Rows L2
section
variable {G : Wd} {ex : Ex} {Wx : L2.WX} {C : RI.Ctx} {k : Nat} {X : Cx} {pos p : Pos} {a : Expr} {ia : IE}
theorem dofP_rel {L : Addr → Prop} {H : Hp} : ∀ {xs : List D} {vs : List V} {acc kvs : List (D × D)} {ks : List (Key × V)}, RelDs G L H xs vs → dofP acc xs = some kvs → RelKs G L H acc ks →
    ∃ (ps : List Addr) (kv : List (Key × V)), vs = ps.map V.ref ∧ Paired (fun p kv => SqT G.K H p [kV kv.1, kv.2]) ps kv ∧ RelKs G L H kvs (mergeK ks kv)
  | _, _, acc, kvs, ks, .nil, e, r => by
    simp only [dofP, Option.some.injEq] at e
    subst e
    exact ⟨[], [], rfl, .nil, r⟩
  | _, _, acc, kvs, ks, .cons (x := x) (v := v) hx hs, e, r => by
    cases hx with
    | tup hq hd =>
      rename_i aa vs' xs'
      rcases xs' with _ | ⟨d, _ | ⟨y, _ | ⟨z, t⟩⟩⟩
      · simp [dofP] at e
      · simp [dofP] at e
      · cases hd with
        | cons r1 hd =>
          cases hd with
          | cons r2 hd =>
            cases hd
            simp only [dofP] at e
            by_cases hk : (keyD d).isSome = true
            · rw [if_pos hk] at e
              obtain ⟨key, hkey⟩ := Option.isSome_iff_exists.mp hk
              have hv := keyV_of hkey r1
              subst hv
              obtain ⟨ps, kv, rfl, hp, hr⟩ := dofP_rel hs e (RelKs.put hkey r2 r)
              exact ⟨aa :: ps, (key, _) :: kv, rfl, .cons hq.sq hp, hr⟩
            · rw [if_neg hk] at e
              cases e
      · simp [dofP] at e
    | _ => simp [dofP] at e
theorem e_dpr (S : Sd G Wx C k X) (hcm : X.calm = true) (hg : Gl X "dict") (ha : PE X a (RE G ex Wx C ia)) (na : starEach [a] X.env = (false, eval a X.env) :: starEach [] X.env := by rfl) (hpl : (backTo pos (starEach [] X.env)).any (·.1) = false := by rfl) :
    PE X (.Call (.Name "dict" p) [a] [] pos) (RE G ex Wx C (.dpr ia)) :=
  (pe_callTy (call_dictP hcm) hg (S.bmg _ (by decide)) (by rfl) (pa_cons ha pa_nil na) (by decide) (by decide) na hpl).of fun σ H Q ⟨ρ, η, St, R, h0⟩ => rd1 (f := fun x S1 => match (lstOf x S1).bind (dofP []) with
    | some kvs => .ok (W.d (.dic kvs)) S1
    | none => .stk) R h0 fun w v ρ1 S1 H1 R1 e1 r1 h1 => by
      split at h1
      · next kvs hd =>
        rw [Option.bind_eq_some_iff] at hd
        obtain ⟨xs, e2, e3⟩ := hd
        obtain ⟨a, vs, rfl, hH, rs⟩ := r1.lstOf R1.st e2
        obtain ⟨ps, kv, rfl, hp, hr⟩ := dofP_rel rs e3 .nil
        refine ⟨a, ps, kv, rfl, SqL.of hH, by rw [S.hK]; exact hp, fun p hp => ?_⟩
        exact h1.after (Ext.newObj (o := .dK (mergeK [] kv)) hp) (R1.st.newObj hp) _ (.d (.dic (upd_same ..) (R1.st.fresh hp) (hr.mono (Ext.newObj (ρ := ρ1) (S := S1) hp).kp)))
      · exact h1.elim
end
end RI
/-! RI32: lists made by + and * that are written later on; range downwards. -/
namespace RI
open PySem PySem.Spec PyProof.Rows L2
section
variable {G : Wd} {ex : Ex} {Wx : L2.WX} {C : Ctx} {k : Nat} {X : Cx} {pos p p2 p3 apos : Pos} {x : Str} {i : Nat} {a b c e o tg : Expr} {ia ib ic io ie : IE}
theorem fix_rngC {ρ : Rho} {S : Store} {H : Hp} {i : Int} {n : Nat} : FixIt G ρ S H (Itc i (-1) n) ((List.range n).map fun (j : Nat) => D.int (i + j * -1)) := by
  refine ⟨fun j ρ' S' H' e R hj => by show j < n; simpa using hj, fun j d v ρ' S' H' H'' e R hd y => ?_, fun ρ' S' H' e R => by show n ≤ _; simp⟩
  obtain ⟨rfl, rfl⟩ := y
  rw [List.getElem?_map] at hd
  cases hr : (List.range n)[j]? with
  | none => rw [hr] at hd; cases hd
  | some m =>
    have hm : m = j := by
      obtain ⟨h1, h2⟩ := List.getElem?_eq_some_iff.mp hr
      simpa using h2.symm
    rw [hr] at hd
    cases hd
    subst hm
    exact ⟨Ext.refl, R, .int _⟩
/-- range(i, n, -1) -/
theorem i_rngd {kk : Nat} (S : Sd G Wx C k X) (hg : Gl X "range") (ha : PE X a (RE G none Wx C ia)) (hb : PE X b (RE G none Wx C ib))
    (hs : starEach [a, b, .UnaryOp .USub (.Constant (.int 1) kk p2) p3] X.env = (false, eval a X.env) :: starEach [b, .UnaryOp .USub (.Constant (.int 1) kk p2) p3] X.env := by rfl)
    (hs2 : starEach [b, .UnaryOp .USub (.Constant (.int 1) kk p2) p3] X.env = (false, eval b X.env) :: starEach [.UnaryOp .USub (.Constant (.int 1) kk p2) p3] X.env := by rfl)
    (hs3 : starEach [.UnaryOp .USub (.Constant (.int 1) kk p2) p3] X.env = (false, eval (.UnaryOp .USub (.Constant (.int 1) kk p2) p3) X.env) :: starEach [] X.env := by rfl)
    (hpl : (backTo pos (starEach [b, .UnaryOp .USub (.Constant (.int 1) kk p2) p3] X.env)).any (·.1) = false := by rfl) :
    PI X tg (.Call (.Name "range" p) [a, b, .UnaryOp .USub (.Constant (.int 1) kk p2) p3] [] pos) (RdI G Wx (evalI C (.rngd ia ib))) :=
  (pi_range3 hg (S.bmg _ (by decide)) (pa_cons ha (pa_cons hb (pa_cons (pe_un un_neg pe_int) pa_nil hs3) hs2) hs) hs hpl).of fun σ H R ⟨ρ, η, St, RA, h⟩ => rd1 (f := fun w S1 => ((evalP C ib).1 η S1).bind fun u S2 => match w, u with
    | .d (.int i), .d (.int n) => if (-1000000 ≤ i ∧ i < 1000000) ∧ -1000000 ≤ n ∧ n < 1000000 then .ok (Src.fix ((List.range (i - n).toNat).map fun (k : Nat) => .int (i + k * -1))) S2 else .stk
    | _, _ => .stk) RA h fun w v ρ1 S1 H1 R1 e1 r1 h1 => rd1 R1 h1 fun w2 v2 ρ2 S2 H2 R2 e2 r2 h2 => by
    cases r1 with
    | d r1 =>
      cases r1 with
      | int i =>
        cases r2 with
        | d r2 =>
          cases r2 with
          | int n =>
            dsimp only at h2
            split at h2
            · next hn =>
              refine ⟨1, rfl, i, n, -1, (i - n).toNat, rfl, RgC.neg (by omega) (by omega) (by omega) (by omega), h2.now R2.st _ fix_rngC⟩
            · exact h2.elim
          | _ => exact h2.elim
        | _ => exact h2.elim
      | _ => exact h2.elim
    | _ => exact h2.elim
/-- a + b of lists that gets a cell -/
theorem e_catT (S : Sd G Wx C k X) (ha : PE X a (RE G none Wx C ia)) (hb : PE X b (RE G none Wx C ib)) : PE X (.BinOp a .Add b pos) (RE G none Wx C (.thaw (.bin .add ia ib))) :=
  (pe_op op_cat ha hb).of fun σ H Q ⟨ρ, η, St, R, h0⟩ => by
    replace h0 : Sat G (fun c d H => Wx c d σ H) ρ St H ((((evalP C ia).1 η St).bind fun x S1 => ((evalP C ib).1 η S1).bind fun y S2 => (ofO (binD .add x y S2) S2).bind fun z S3 => .ok (W.d z) S3).bind fun w S1 => thawD w S1) _ := h0
    rw [Res.bind_assoc] at h0
    refine rd1 (f := fun x S1 => (((evalP C ib).1 η S1).bind fun y S2 => (ofO (binD .add x y S2) S2).bind fun z S3 => .ok (W.d z) S3).bind fun w S1 => thawD w S1) R h0 fun w v ρ1 S1 H1 R1 e1 r1 h1 => ?_
    rw [Res.bind_assoc] at h1
    refine rd1 (f := fun y S2 => ((ofO (binD .add w y S2) S2).bind fun z S3 => .ok (W.d z) S3).bind fun w S1 => thawD w S1) R1 h1 fun w2 v2 ρ2 S2 H2 R2 e2 r2 h2 => ?_
    rw [Res.bind_assoc] at h2
    obtain ⟨z, ez, h3⟩ := h2.ofO_bind
    rw [Res.bind_ok] at h3
    replace ez : addD w w2 S2 = some z := ez
    unfold addD at ez
    have r1' := r1.mono e2.kp e2.pre
    split at ez
    · cases ez; exact h3.elim
    · split at ez
      · cases ez; exact h3.elim
      · cases ez
    · split at ez
      · cases ez; exact h3.elim
      · cases ez
    · split at ez
      · next s1 t1 q1 q2 =>
        split at ez
        · next hl =>
          cases ez
          obtain ⟨p, vs, rfl, g1, s1⟩ := r1'.lstOf R2.st q1
          obtain ⟨q, us, rfl, g2, s2⟩ := r2.lstOf R2.st q2
          refine ⟨_, _, vs, us, rfl, rfl, g1, g2, by rw [← s1.length, ← s2.length]; exact hl, fun l hl => ?_⟩
          exact h3.after (Ext.newCell (c := .lst _) (o := .lst (vs ++ us)) R2.st hl) (R2.st.newLst hl (s1.append s2)) _ (.loc (by rw [← R2.st.len]; exact app_get _ _))
        · cases ez
      · cases ez
/-- a * n of a list that gets a cell -/
theorem e_repT (S : Sd G Wx C k X) (ha : PE X a (RE G none Wx C ia)) (hb : PE X b (RE G none Wx C ib)) : PE X (.BinOp a .Mult b pos) (RE G none Wx C (.thaw (.bin .mul ia ib))) :=
  (pe_op op_rep ha hb).of fun σ H Q ⟨ρ, η, St, R, h0⟩ => by
    replace h0 : Sat G (fun c d H => Wx c d σ H) ρ St H ((((evalP C ia).1 η St).bind fun x S1 => ((evalP C ib).1 η S1).bind fun y S2 => (ofO (binD .mul x y S2) S2).bind fun z S3 => .ok (W.d z) S3).bind fun w S1 => thawD w S1) _ := h0
    rw [Res.bind_assoc] at h0
    refine rd1 (f := fun x S1 => (((evalP C ib).1 η S1).bind fun y S2 => (ofO (binD .mul x y S2) S2).bind fun z S3 => .ok (W.d z) S3).bind fun w S1 => thawD w S1) R h0 fun w v ρ1 S1 H1 R1 e1 r1 h1 => ?_
    rw [Res.bind_assoc] at h1
    refine rd1 (f := fun y S2 => ((ofO (binD .mul w y S2) S2).bind fun z S3 => .ok (W.d z) S3).bind fun w S1 => thawD w S1) R1 h1 fun w2 v2 ρ2 S2 H2 R2 e2 r2 h2 => ?_
    rw [Res.bind_assoc] at h2
    obtain ⟨z, ez, h3⟩ := h2.ofO_bind
    rw [Res.bind_ok] at h3
    replace ez : mulD w w2 S2 = some z := ez
    unfold mulD at ez
    have r1' := r1.mono e2.kp e2.pre
    split at ez
    · split at ez
      · cases ez; exact h3.elim
      · cases ez
    · split at ez
      · cases ez; exact h3.elim
      · cases ez
    · split at ez
      · next s1 q1 =>
        split at ez
        · next hl =>
          cases ez
          obtain ⟨p, vs, rfl, g1, s1⟩ := r1'.lstOf R2.st q1
          have q2 := r2.d_inv.int_inv
          subst q2
          refine ⟨_, _, vs, rfl, rfl, g1, hl.2.1, hl.2.2, by rw [← s1.length]; exact hl.1, fun l hl => ?_⟩
          exact h3.after (Ext.newCell (c := .lst _) (o := .lst _) R2.st hl) (R2.st.newLst hl (s1.rep _)) _ (.loc (by rw [← R2.st.len]; exact app_get _ _))
        · cases ez
      · cases ez
    · cases ez
/-- l.pop() is l.pop(-1) -/
def rPop0 (G : Wd) (ex : Ex) : V → List V → Hp → VK → Prop := fun x vs H Q => vs = [] ∧ rBm G ex .pop x [.int (-1)] H Q
theorem mt_pop0 (hK : X.K = G.K) : MtR X "list.pop" (rPop0 G ex) := by
  rintro pins s σ H x xs v us Q I rx rv ⟨rfl, ρ, S, o, ws, w, S', R, ro, rw', e, k⟩
  unfold bmD at e
  split at e <;> try (first | cases e | contradiction)
  next l i hm =>
  split at e
  · next ys e1 =>
    split at e
    · next j e2 =>
      split at e
      · next z e3 =>
        cases e
        obtain ⟨y, ey, r⟩ := rw'.one
        simp only [List.cons.injEq, and_true] at ey
        subst ey
        have q := r.d_inv.int_inv
        cases q
        cases ro with
        | loc ha =>
          cases R.cell l _ _ e1 ha with
          | lst h1 h2 =>
            rename_i vs0
            obtain ⟨zv, e4, rz⟩ := h2.get e3
            have hj : j = ys.length - 1 ∧ 0 < ys.length := by
              unfold L2.ixN at e2
              rw [if_neg (by decide)] at e2
              split at e2
              · next h =>
                simp only [Option.some.injEq] at e2
                omega
              · cases e2
            have hjv : j = vs0.length - 1 := by rw [← h2.length]; exact hj.1
            rw [hjv] at e4
            refine mt_pop pins s σ H _ _ v us Q I rx rv ⟨_, _, zv, rfl, rfl, h1, e4, ?_⟩
            have ec := Ext.setCell (c' := .lst (ys.eraseIdx j)) (o := .lst (List.eraseIdx vs0 j)) R e1 rfl ha
            have hd : vs0.dropLast = vs0.eraseIdx j := by
              rw [hjv]
              exact List.eraseIdx_length_sub_one.symm
            rw [hd]
            exact k _ _ ec (R.setCell e1 rfl ha (.lst upd_same ((h2.mono ec.kp).erase _))) (.d (rz.mono ec.kp))
      · cases e
    · cases e
  · cases e
theorem e_pop0 (S : Sd G Wx C k X) (ho : PE X o (RE G ex Wx C io)) (hbase : attributeBase o "pop" X.env (eval o X.env) = eval o X.env := by rfl) (hline : (apos.endLine == pos.line) = true := by rfl) :
    PE X (.Call (.Attribute o "pop" apos) [] [] pos) (RE G ex Wx C (.bm io .pop (.cons (.int (-1)) .nil))) :=
  (pe_bm0 PySem.F.plainAttrs_list PySem.F.slot_list_pop PySem.F.type_list_pop (mt_pop0 (G := G) (ex := ex) S.hK) ho hbase hline).of fun σ H Q h => by
    obtain ⟨ρ, η, St, R, h0⟩ := h
    refine rd1 (f := fun o S1 => if recvOk .pop o S1 = true then (evalEs C (.cons (.int (-1)) .nil) η S1).bind fun ws S2 => bmD .pop o ws S2 else .stk) R h0 fun w v ρ1 S1 H1 R1 e1 r1 h1 => ?_
    split at h1
    · next hr =>
      replace h1 : Sat G (fun c d H => Wx c d σ H) ρ1 S1 H1 (bmD .pop w [.d (.int (-1))] S1) _ := h1
      refine ⟨recv_list (by decide) R1.st r1 hr, rfl, ?_⟩
      cases hb : bmD .pop w [.d (.int (-1))] S1 with
      | ok z S3 => exact ⟨ρ1, S1, w, [.d (.int (-1))], z, S3, R1.st, r1, .cons (.d (.int _)) .nil, hb, fun v' H' e' R' r' => by rw [hb] at h1; exact h1 _ _ e' R' v' r'⟩
      | exc c fs S3 => exact (bm_noexc hb).elim
      | stk => rw [hb] at h1; exact h1.elim
    · exact h1.elim
theorem t_din (S : Sd G Wx C k X) (hb : PE X b (RE G ex Wx C ib)) (ha : PE X a (RE G ex Wx C ia)) (hm : behindInMarks .In a = false := by with_unfolding_all rfl) : PT X (.Compare b [.In] [a] pos) (RT G ex Wx C (.din false ib ia)) :=
  (pt_cmp (pc_din (by have := S.un; omega) hb ha) hm).of fun σ H Q ⟨ρ, η, St, R, h0⟩ => by
    replace h0 : Sat G (fun c d H => Wx c d σ H) ρ St H ((((evalP C ib).1 η St).bind fun y S1 => ((evalP C ia).1 η S1).bind fun x S2 => match dgetD x y S2 with
      | some o => .ok (W.d (.bl (if false then !o.isSome else o.isSome))) S2
      | none => .stk).bind fun x S1 => ofO (truthy x S1) S1) _ := h0
    rw [Res.bind_assoc] at h0
    refine rd1 R h0 fun w v ρ1 S1 H1 R1 e1 r1 h1 => ?_
    rw [Res.bind_assoc] at h1
    refine rd1 R1 h1 fun w2 v2 ρ2 S2 H2 R2 e2 r2 h2 => ?_
    cases ho : dgetD w2 w S2 with
    | none => rw [ho] at h2; exact h2.elim
    | some o =>
      rw [ho] at h2
      obtain ⟨a, o', rfl, g, q⟩ := dget_of R2.st r2 (r1.mono e2.kp e2.pre) ho
      have : o'.isSome = o.isSome := by
        cases o with
        | some y => obtain ⟨u, rfl, _⟩ := q; rfl
        | none => rw [q]; rfl
      refine ⟨a, o', rfl, g, _, rfl, ?_⟩
      rw [this]
      exact Sat.now (a := o.isSome) R2.st h2
theorem t_dnin (S : Sd G Wx C k X) (hb : PE X b (RE G ex Wx C ib)) (ha : PE X a (RE G ex Wx C ia)) (hm : behindInMarks .NotIn a = false := by with_unfolding_all rfl) : PT X (.Compare b [.NotIn] [a] pos) (RT G ex Wx C (.din true ib ia)) :=
  (pt_cmp (pc_dnotin (by have := S.un; omega) hb ha) hm).of fun σ H Q ⟨ρ, η, St, R, h0⟩ => by
    replace h0 : Sat G (fun c d H => Wx c d σ H) ρ St H ((((evalP C ib).1 η St).bind fun y S1 => ((evalP C ia).1 η S1).bind fun x S2 => match dgetD x y S2 with
      | some o => .ok (W.d (.bl (if true then !o.isSome else o.isSome))) S2
      | none => .stk).bind fun x S1 => ofO (truthy x S1) S1) _ := h0
    rw [Res.bind_assoc] at h0
    refine rd1 R h0 fun w v ρ1 S1 H1 R1 e1 r1 h1 => ?_
    rw [Res.bind_assoc] at h1
    refine rd1 R1 h1 fun w2 v2 ρ2 S2 H2 R2 e2 r2 h2 => ?_
    cases ho : dgetD w2 w S2 with
    | none => rw [ho] at h2; exact h2.elim
    | some o =>
      rw [ho] at h2
      obtain ⟨a, o', rfl, g, q⟩ := dget_of R2.st r2 (r1.mono e2.kp e2.pre) ho
      have : o'.isSome = o.isSome := by
        cases o with
        | some y => obtain ⟨u, rfl, _⟩ := q; rfl
        | none => rw [q]; rfl
      refine ⟨a, o', rfl, g, _, rfl, ?_⟩
      rw [this]
      exact Sat.now (a := !o.isSome) R2.st h2
end
end RI
/-! RI33: try: .. except X: without a name. -/
namespace RI
open PySem PySem.Spec PyProof.Rows L2
section
variable {G : Wd} {ex : Ex} {Wx : L2.WX} {C : Ctx} {k : Nat} {X : Cx} {pos : Pos} {x : Str} {E : XK}
theorem RelW.exn_out {L : Addr → Prop} {ρ : Rho} {H : Hp} {w : W} {v : V} (r : RelW G ex L ρ H w v) (h : ∀ c fs, w ≠ .exn c fs) : RelW G none L ρ H w v := by
  cases r with
  | d r => exact .d r
  | loc r => exact .loc r
  | scr r => exact .scr r
  | exn _ _ _ _ => exact absurd rfl (h _ _)
/-- try: .. except X: .. -/
theorem s_tryo {np hp' : Pos} {body suite : List Stmt} {b₀ : Stmt} {ib' : IB} {js : ISs} {j : Nat} {cd : ClD} {fs0 : List Nat} (S : Sd G (wE E) C k X) (hst : X.stack = X.env :: X.outer) (hfr : X.env.frame = some X.env.locals)
    (hg : Gl X x) (h1 : C.P.cls[j]? = some cd) (hn : cd.name = x) (hx : cd.exc = some fs0)
    (hb : ∀ (W' : L2.WX) (pn : List (Addr × Obj)) (xe : Value → Shared → Prop), Sd G W' C k (X.tr pn xe) → Sd G (wE noX) C k (X.tr pn xe) → PassesOwn (model X.prog X.w) X.A X.env xe → PSs (X.tr pn xe) body (RB G W' (execB C ib')))
    (hsu : ∀ (a : Addr) (oe : Obj) (cls : Value) (d : Option Addr) (pn : List (Addr × Obj)), Zc cls d oe → (∃ vs, oe.data = .fields vs) → Sd G (wE noX) C k (X.suite a ((a, oe) :: pn)) → PSs (X.suite a ((a, oe) :: pn)) (b₀ :: suite) (RSs G noX C js))
    (hdb : (x == ("__debug__" : Str)) = false := by decide) :
    PS X (.Try body [.ExceptHandler (some (.Name x np)) none (b₀ :: suite) hp'] [] [] pos) (RS G E C (.tryo ib' j js)) := by
  refine (ps_try_only (tb := fun W' => RB G W' (execB C ib')) (ts := fun a cls d => RSs G noX C js) hst hfr (names_c S hg h1 hn hdb) S.tk
    (fun W' pn xe tk ps => hb W' pn xe (S.tr pn xe tk) (S.tr pn xe takes0) ps) (fun a oe cls d pn hz hf => hsu a oe cls d pn hz hf (S.suite a _))).of fun D σ H ⟨ρ, η, St, R, h⟩ => ?_
  refine ⟨ρ, η, St, R, ?_⟩
  replace h : Sat G E ρ St H (match execB C ib' η St with
    | .exc c' fs S1 => if excC C.P c' = true then (if tyIs C.P (.cls c') (.cls j) = true then
        (noExc (execSs C js η S1)).bind fun f S2 => match f with
          | .nx η1 => .ok (.nx η1) S2
          | _ => .stk
      else .exc c' fs S1) else .stk
    | r => r) (FlowOk G none D) := h
  cases hr : execB C ib' η St with
  | ok f S' => rw [hr] at h; exact h
  | stk => rw [hr] at h; exact h
  | exc c' fs S1 =>
    rw [hr] at h
    dsimp only at h
    by_cases hc' : excC C.P c' = true
    case neg => rw [if_neg hc'] at h; exact h.elim
    rw [if_pos hc'] at h
    obtain ⟨cd', fs', e1, e2⟩ := cls_of hc'
    have T := S.exf c' cd' fs' e1 e2
    have hj : excC C.P j = true := by unfold excC; rw [h1]; simp [hx]
    intro dx ρ' H' ext RS' rx
    refine ⟨tyIs C.P (.cls c') (.cls j), T.exm j hj, fun hb1 a0 ha0 => ?_, fun hb0 => ?_⟩
    · rw [hb1] at h
      simp only [if_true] at h
      have Rm := R.mono ext RS'
      refine ⟨ρ', η, S1, Rm, ?_⟩
      have h2 : Sat G noX ρ' S1 H' ((noExc (execSs C js η S1)).bind fun f S2 => match f with
        | .nx η1 => .ok (Flow.nx η1) S2
        | _ => .stk) (FlowOk G none D) := by
        have h3 := h.from ext
        cases hq : execSs C js η S1 with
        | ok f S2 =>
          rw [hq] at h3
          simp only [noExc_ok, Res.bind_ok] at h3 ⊢
          cases f with
          | nx η1 => exact h3
          | _ => exact h3.elim
        | exc c fs S2 => rw [hq] at h3; exact (show False from h3).elim
        | stk => rw [hq] at h3; exact (show False from h3).elim
      refine Sat.noE (W1 := noX) (h2.bind.mono fun f ρ1 S2 H1 _ _ ⟨e1', R1, h4⟩ => ?_)
      cases f with
      | nx η1 => exact fun σ1 RA => (h4.now R1 : FlowOk G none D (.nx η1) ρ1 S2 H1) _ RA
      | _ => exact (show False from h4).elim
    · rw [hb0] at h
      exact h dx ρ' H' ext RS' rx
end
end RI
/-! RI34: `is True`, `is not True` as tests and values. -/
namespace RI
open PySem PySem.Spec PyProof.Rows L2
section
variable {G : Wd} {ex : Ex} {Wx : L2.WX} {C : Ctx} {k : Nat} {X : Cx} {pos p : Pos} {a : Expr} {ia : IE} {b : Bool}
theorem t_isb {kk} (ha : PE X a (RE G ex Wx C ia)) : PT X (.Compare a [.Is] [.Constant (.bool b) kk p] pos) (RT G ex Wx C (.isb b ia)) :=
  (pt_cmpR op_is_bl ha (pe_bl (X := X) (j := kk) (pos := p)) rfl).of fun σ H Q ⟨ρ, η, St, R, h0⟩ => by
    replace h0 : Sat G (fun c d H => Wx c d σ H) ρ St H ((((evalP C ia).1 η St).bind fun x S1 => match x with
      | .d (.bl k) => .ok (W.d (.bl (k == b))) S1
      | _ => .stk).bind fun x S1 => ofO (truthy x S1) S1) _ := h0
    rw [Res.bind_assoc] at h0
    refine rd1 R h0 fun w v ρ1 S1 H1 R1 e1 r1 h1 => ?_
    cases r1 with
    | d r1 =>
      cases r1 with
      | bl q => exact ⟨q, b, rfl, rfl, _, rfl, by
          have := h1.now R1.st
          cases q <;> cases b <;> exact this⟩
      | _ => exact h1.elim
    | _ => exact h1.elim
theorem t_isnb {kk} (ha : PE X a (RE G ex Wx C ia)) : PT X (.Compare a [.IsNot] [.Constant (.bool b) kk p] pos) (RT G ex Wx C (.not (.isb b ia))) :=
  (pt_cmpR op_isnot_bl ha (pe_bl (X := X) (j := kk) (pos := p)) rfl).of fun σ H Q ⟨ρ, η, St, R, h0⟩ => by
    replace h0 : Sat G (fun c d H => Wx c d σ H) ρ St H (((((evalP C ia).1 η St).bind fun x S1 => match x with
      | .d (.bl k) => .ok (W.d (.bl (k == b))) S1
      | _ => .stk).bind fun x S1 => ofO (truthy x S1) S1).bind fun b S1 => .ok (!b) S1) _ := h0
    rw [Res.bind_assoc, Res.bind_assoc] at h0
    refine rd1 R h0 fun w v ρ1 S1 H1 R1 e1 r1 h1 => ?_
    cases r1 with
    | d r1 =>
      cases r1 with
      | bl q => exact ⟨q, b, rfl, rfl, _, rfl, by
          have := h1.now R1.st
          cases q <;> cases b <;> exact this⟩
      | _ => exact h1.elim
    | _ => exact h1.elim
end
end RI
/-! RI35: calls of what a list holds. -/
namespace RI
open PySem PySem.Spec PyProof.Rows L2
section
variable {G : Wd} {Wx : L2.WX} {C : Ctx} {k : Nat} {X : Cx} {pos p sp : Pos} {a0 b0 e : Expr} {ia : IE} {es : List Expr} {ies : IEs}
theorem e_callx (S : Sd G Wx C k X) (hcm : X.calm = true) (hf : PE X (.Subscript a0 b0 sp) (RE G none Wx C ia)) (ha : PA X (e :: es) (REs G none Wx C ies))
    (he : starEach (e :: es) X.env = (false, eval e X.env) :: starEach es X.env := by rfl) (hpl : (backTo pos (starEach es X.env)).any (·.1) = false := by rfl) :
    PE X (.Call (.Subscript a0 b0 sp) (e :: es) [] pos) (RE G none Wx C (.callx ia ies)) := by
  refine ⟨fun pins s σ H Q I ⟨ρ, η, St, R, h0⟩ => ?_⟩
  have arm : eval (.Call (.Subscript a0 b0 sp) (e :: es) [] pos) X.env = (do
      callWith pos (← eval (.Subscript a0 b0 sp) X.env) [] (backTo pos (starEach (e :: es) X.env)) (backToKw pos (keywordEach [] X.env))) := rfl
  rw [arm]
  refine wpAny_bind (thn (hf.run pins s σ H (fun v H1 => ∃ f fd ρ1 S1, v = V.ref (G.fa f) ∧ C.P.fns[f]? = some fd ∧ RelAll G none ρ1 η S1 σ H1 ∧ Sat G (fun c d H => Wx c d σ H) ρ1 S1 H1 ((evalEs C ies η S1).bind fun ws S2 => if ws.length = fd.np then C.call f ws S2 else .stk) fun w ρ' S' H' => ∀ v, RelW G none (Live ρ' S') ρ' H' w v → Q v H') I (rd1 (f := fun w S1 => match w with
    | .d (.fn f) => match C.P.fns[f]? with
      | some fd => (evalEs C ies η S1).bind fun ws S2 => if ws.length = fd.np then C.call f ws S2 else .stk
      | none => .stk
    | _ => .stk) R h0 fun w v ρ1 S1 H1 R1 e1 r1 h1 => ?_)) fun u s1 ⟨v, H1, I1, r1, f, fd, ρ1, S1, hv, hfd, R1, h2⟩ => ?_)
  · cases r1 with
    | d r =>
      cases r with
      | fn f =>
        dsimp only at h1
        split at h1
        · next fd hf => exact ⟨f, fd, ρ1, S1, rfl, hf, R1, h1⟩
        · exact h1.elim
      | _ => exact (show False from h1).elim
    | _ => exact (show False from h1).elim
  · subst hv
    cases r1
    obtain ⟨fdat, ps, hps, F, hb⟩ := (S.fok f fd hfd).ex
    refine PySem.W.callWith_K (h₀ := X.base) I.ok.mod.kin (S.fok f fd hfd).kp (thn (ha.run pos pins s1 σ _ (fun vs H1 => spF G (C.call f) fd.np vs H1 Q (WE Wx σ)) I1 (rd1s R1 h2 fun ws vs ρ2 S2 H2 R2 e2 r2 h3 => ?_)) fun us s2 ⟨vs, H2, I2, r, q⟩ => ⟨I2.kIn, ?_⟩) he hpl
    · split at h3
      · next hl => exact spF_of R2.st r2 hl h3
      · exact h3.elim
    · exact FnG.call F S.gd ((S.room hcm).mono (Nat.le_succ _)) hb (passAt S.tk σ) I2 r q
end
end RI
/-! RIZ: list(zip(a, b)), two lists. The pair that was handed out lives on, so the iterator makes a new one each time. -/
namespace RZ
open PySem
open PySem.Sem (wp)
theorem zip_no_len : typeLookup (.type "zip") "__len__" = pure none := by rw [typeLookup_type, builtinLookup_eq_fast]; kernel_rfl
theorem zip_no_hint : typeLookup (.type "zip") "__length_hint__" = pure none := by rw [typeLookup_type, builtinLookup_eq_fast]; kernel_rfl
/-- the iterator when a pair that it gave is still there -/
abbrev IsZipL (h : Heap) (z TI TO T : Addr) (b : Bool) : Prop :=
  h.get? z = some { cls := .type "zip", dict := none, data := .fields #[rawInt T, .bool b, .bool false, .ref TI, .ref TO], slots := #[] }
section
variable {prog : Program} {w : World} {A : Around} {E : Value → Shared → Prop} {s : Shared}
theorem wpAny_alive {M : Model} {a : Addr} {Q : Option Obj → Shared → Prop} (h : Q (s.heap.get? a) s) : wpAny M A (loadIfAlive a) Q E s := fun Γ p _ => by
  unfold loadIfAlive
  rw [Sem.wp_loadIfAlive]
  first | exact h | (rw [wp]; exact h) | (simp; exact h)
theorem owned_kept {z TI TO T : Addr} {b : Bool} {o : Obj} {Q : Bool → Shared → Prop} (hz : IsZipL s.heap z TI TO T b) (hT : s.heap.get? T = some o)
    (h : ∀ h', IsZipL h' z TI TO T true → Heap.SameBut z s.heap h' → Q false { s with heap := h' }) :
    wpAny (model prog w) A (Builtin.SmallTypes.ownedTupleIsFree (.ref z)) Q E s := by
  unfold Builtin.SmallTypes.ownedTupleIsFree
  refine wpAny_bind (wpAny_field hz rfl (x := rawInt T) rfl ?_)
  show wpAny _ _ (loadIfAlive (Int.toNat (T : Int)) >>= _) _ _ _
  refine wpAny_bind (wpAny_alive ?_)
  rw [Int.toNat_natCast, hT]
  show wpAny _ _ (field (.ref z) 1 >>= _) _ _ _
  refine wpAny_bind (wpAny_field hz rfl (x := .bool b) rfl ?_)
  cases b with
  | true => exact wpAny_pure (h s.heap hz (Heap.SameBut.refl z s.heap))
  | false =>
    refine wpAny_bind (wpAny_setField_rec hz (by simp) fun h' hz' hs' => wpAny_pure ?_)
    exact h h' hz' hs'

theorem zipL_item {z TI TO T i1 i2 l1 l2 : Addr} {bb : Bool} {o : Obj} {k1 k2 : Nat} {xs ys : Array Value} {x y : Value} {Q : Value → Shared → Prop} (D : ZipApart z TI TO i1 i2 l1 l2)
    (hz : IsZipL s.heap z TI TO T bb) (hT : s.heap.get? T = some o) (hTI : IsPair s.heap TI (.ref i1) (.ref i2))
    (h1 : s.heap.IsListIter i1 l1 k1) (h2 : s.heap.IsListIter i2 l2 k2) (hl1 : s.heap.IsList l1 xs) (hl2 : s.heap.IsList l2 ys) (hx : xs[k1]? = some x) (hy : ys[k2]? = some y)
    (hQ : ∀ h', IsZipL h' z TI TO T true → h'.IsListIter i1 l1 (k1 + 1) → h'.IsListIter i2 l2 (k2 + 1) → IsPair h' s.heap.objs.size x y → h'.objs.size = s.heap.objs.size + 1 →
      (∀ c o, c ≠ z → c ≠ TO → c ≠ i1 → c ≠ i2 → s.heap.get? c = some o → h'.get? c = some o) → Q (.ref s.heap.objs.size) { s with heap := h' }) :
    wpAny (model prog w) A (Builtin.«zip.__next__» ⟨[.ref z], []⟩) (fun fin s' => ∃ v, fin = .done (.ret v) ∧ Q v s') E s := by
  show wpAny _ _ (field (.ref z) 2 >>= _) _ _ _
  refine wpAny_bind (wpAny_field hz rfl (x := .bool false) rfl ?_)
  show wpAny _ _ (field (.ref z) 3 >>= _) _ _ _
  refine wpAny_bind (wpAny_field hz rfl (x := .ref TI) rfl ?_)
  refine wpAny_bind (wpAny_seqItems hTI rfl ?_)
  show wpAny _ _ (Builtin.SmallTypes.ownedTupleIsFree (.ref z) >>= _) _ _ _
  refine wpAny_bind (owned_kept hz hT fun h₁ hz₁ hs₁ => ?_)
  simp only [Bool.false_eq_true, if_false]
  refine wpAny_bind ?_
  simp only [← Array.forIn_toList, List.forIn_cons, List.forIn_nil]
  refine wpAny_bind (wpAny_bind (wpAny_holding ?_))
  show wpAny _ _ (Builtin.SmallTypes.nextOf (.ref i1) >>= _) _ _ _
  refine wpAny_bind (wpAny_nextOf_list_item (h1.extBut hs₁.extBut D.i1z) (hl1.extBut hs₁.extBut D.l1z) hx fun h₂ h1₂ hs₂ => wpAny_pure ?_)
  refine wpAny_pure ?_
  refine wpAny_bind (wpAny_bind (wpAny_holding ?_))
  show wpAny _ _ (Builtin.SmallTypes.nextOf (.ref i2) >>= _) _ _ _
  refine wpAny_bind (wpAny_nextOf_list_item ((h2.extBut hs₁.extBut D.i2z).extBut hs₂.extBut D.i12.symm) ((hl2.extBut hs₁.extBut D.l2z).extBut hs₂.extBut D.l2i1) hy fun h₃ h2₃ hs₃ => wpAny_pure ?_)
  refine wpAny_pure (wpAny_pure ?_)
  show wpAny _ _ (newTuple [x, y] >>= _) _ _ _
  refine wpAny_bind (wpAny_newTuple ?_)
  have hsz : h₃.objs.size = s.heap.objs.size := by rw [hs₃.1, hs₂.1, hs₁.1]
  have hk₃ : ∀ c o, c ≠ z → c ≠ TO → c ≠ i1 → c ≠ i2 → s.heap.get? c = some o → h₃.get? c = some o := fun c o c1 c2 c3 c4 e =>
    hs₃.extBut _ _ c4 (hs₂.extBut _ _ c3 (hs₁.extBut _ _ c1 e))
  have hz₃ : IsZipL h₃ z TI TO T true := hs₃.extBut _ _ D.i2z.symm (hs₂.extBut _ _ D.i1z.symm hz₁)
  have h1₃ : h₃.IsListIter i1 l1 (k1 + 1) := h1₂.extBut hs₃.extBut D.i12
  refine wpAny_pure ⟨_, rfl, ?_⟩
  show Q (.ref h₃.objs.size) _
  have hT₃ : IsPair (h₃.push { cls := .type "tuple", data := .seq #[x, y] }) h₃.objs.size x y := Heap.get?_push_size _ rfl
  rw [hsz] at hT₃ ⊢
  exact hQ (h₃.push { cls := .type "tuple", data := .seq #[x, y] }) (Heap.get?_push_of_some _ hz₃) (h1₃.at fun o e => Heap.get?_push_of_some _ e) (h2₃.at fun o e => Heap.get?_push_of_some _ e) hT₃ (by rw [Heap.size_push, hsz])
    fun c o c1 c2 c3 c4 e => Heap.get?_push_of_some _ (hk₃ c o c1 c2 c3 c4 e)

theorem zipL_end {z TI TO T i1 i2 l1 l2 : Addr} {bb : Bool} {o : Obj} {k1 k2 : Nat} {xs ys : Array Value} {Q : Fin → Shared → Prop} (hh : A.handled = none) (D : ZipApart z TI TO i1 i2 l1 l2)
    (hz : IsZipL s.heap z TI TO T bb) (hT : s.heap.get? T = some o) (hTI : IsPair s.heap TI (.ref i1) (.ref i2))
    (h1 : s.heap.IsListIter i1 l1 k1) (h2 : s.heap.IsListIter i2 l2 k2) (hl1 : s.heap.IsList l1 xs) (hl2 : s.heap.IsList l2 ys) (hend : xs[k1]? = none ∨ ys[k2]? = none)
    (hE : ∀ h' e, (∀ c o, c ≠ z → c ≠ TO → c ≠ i1 → c ≠ i2 → s.heap.get? c = some o → h'.get? c = some o) → (∃ o, h'.get? e = some o ∧ o.cls = .type "StopIteration") → E (.ref e) { s with heap := h' }) :
    wpAny (model prog w) A (Builtin.«zip.__next__» ⟨[.ref z], []⟩) Q E s := by
  show wpAny _ _ (field (.ref z) 2 >>= _) _ _ _
  refine wpAny_bind (wpAny_field hz rfl (x := .bool false) rfl ?_)
  show wpAny _ _ (field (.ref z) 3 >>= _) _ _ _
  refine wpAny_bind (wpAny_field hz rfl (x := .ref TI) rfl ?_)
  refine wpAny_bind (wpAny_seqItems hTI rfl ?_)
  show wpAny _ _ (Builtin.SmallTypes.ownedTupleIsFree (.ref z) >>= _) _ _ _
  refine wpAny_bind (owned_kept hz hT fun h₁ hz₁ hs₁ => ?_)
  simp only [Bool.false_eq_true, if_false]
  refine wpAny_bind ?_
  simp only [← Array.forIn_toList, List.forIn_cons, List.forIn_nil]
  refine wpAny_bind (wpAny_bind (wpAny_holding ?_))
  show wpAny _ _ (Builtin.SmallTypes.nextOf (.ref i1) >>= _) _ _ _
  cases hx : xs[k1]? with
  | none =>
    refine wpAny_bind (wpAny_nextOf_list_end hh (h1.extBut hs₁.extBut D.i1z) (hl1.extBut hs₁.extBut D.l1z) hx fun h₂ e hs₂ he => ?_)
    exact hE h₂ e (fun c o c1 _ c3 _ x => hs₂ _ _ c3 (hs₁.extBut _ _ c1 x)) he
  | some x =>
    have hy : ys[k2]? = none := by rcases hend with h | h; rw [hx] at h; cases h; exact h
    refine wpAny_bind (wpAny_nextOf_list_item (h1.extBut hs₁.extBut D.i1z) (hl1.extBut hs₁.extBut D.l1z) hx fun h₂ h1₂ hs₂ => wpAny_pure ?_)
    refine wpAny_pure ?_
    refine wpAny_bind (wpAny_bind (wpAny_holding ?_))
    show wpAny _ _ (Builtin.SmallTypes.nextOf (.ref i2) >>= _) _ _ _
    refine wpAny_bind (wpAny_nextOf_list_end hh ((h2.extBut hs₁.extBut D.i2z).extBut hs₂.extBut D.i12.symm) ((hl2.extBut hs₁.extBut D.l2z).extBut hs₂.extBut D.l2i1) hy fun h₃ e hs₃ he => ?_)
    exact hE h₃ e (fun c o c1 _ c3 c4 x => hs₃ _ _ c4 (hs₂.extBut _ _ c3 (hs₁.extBut _ _ c1 x))) he
/-- the iterator, fresh or with a pair that lives on -/
def ZipAny (h : Heap) (z TI TO i1 i2 : Addr) : Prop := (∃ a b, IsZip h z TI TO .none ∧ IsPair h TO a b) ∨ ∃ T b o, IsZipL h z TI TO T b ∧ h.get? T = some o ∧ T ≠ z ∧ T ≠ TO ∧ T ≠ i1 ∧ T ≠ i2
theorem ZipAny.typeIs {z TI TO i1 i2 : Addr} (hz : ZipAny s.heap z TI TO i1 i2) : s.TypeIs (.ref z) "zip" := by
  rcases hz with ⟨a, b, hz, hTO⟩ | ⟨T, b, o, hz, hT⟩
  · exact ⟨_, hz, rfl⟩
  · exact ⟨_, hz, rfl⟩
theorem ZipAny.at {h h' : Heap} {z TI TO i1 i2 : Addr} (hz : ZipAny h z TI TO i1 i2) (hk : ∀ c o, h.get? c = some o → h'.get? c = some o) : ZipAny h' z TI TO i1 i2 := by
  rcases hz with ⟨a, b, hz, hTO⟩ | ⟨T, b, o, hz, hT, h3⟩
  · exact .inl ⟨a, b, hk _ _ hz, hk _ _ hTO⟩
  · exact .inr ⟨T, b, o, hk _ _ hz, hk _ _ hT, h3⟩
/-- one object that is none of the iterator's may change -/
theorem ZipAny.put {h h' : Heap} {z TI TO i1 i2 S : Addr} (hz : ZipAny h z TI TO i1 i2) (hSz : S ≠ z) (hSTO : S ≠ TO) (hk : ∀ c o, c ≠ S → h.get? c = some o → h'.get? c = some o) (hS : ∃ o, h'.get? S = some o) : ZipAny h' z TI TO i1 i2 := by
  rcases hz with ⟨a, b, hz, hTO⟩ | ⟨T, b, o, hz, hT, h3⟩
  · exact .inl ⟨a, b, hk _ _ hSz.symm hz, hk _ _ hSTO.symm hTO⟩
  · by_cases e : T = S
    · obtain ⟨o', ho'⟩ := hS
      exact .inr ⟨T, b, o', hk _ _ hSz.symm hz, e ▸ ho', h3⟩
    · exact .inr ⟨T, b, o, hk _ _ hSz.symm hz, hk _ _ e hT, h3⟩
theorem next_item {z TI TO i1 i2 l1 l2 : Addr} {k : Nat} {xs ys : Array Value} {x y : Value} {Q : Option Value → Shared → Prop} (D : ZipApart z TI TO i1 i2 l1 l2)
    (hz : ZipAny s.heap z TI TO i1 i2) (hTI : IsPair s.heap TI (.ref i1) (.ref i2))
    (h1 : s.heap.IsListIter i1 l1 k) (h2 : s.heap.IsListIter i2 l2 k) (hl1 : s.heap.IsList l1 xs) (hl2 : s.heap.IsList l2 ys) (hx : xs[k]? = some x) (hy : ys[k]? = some y)
    (hQ : ∀ h', ZipAny h' z TI TO i1 i2 → h'.IsListIter i1 l1 (k + 1) → h'.IsListIter i2 l2 (k + 1) → IsPair h' s.heap.objs.size x y → h'.objs.size = s.heap.objs.size + 1 →
      (∀ c o, c ≠ z → c ≠ TO → c ≠ i1 → c ≠ i2 → s.heap.get? c = some o → h'.get? c = some o) → Q (some (.ref s.heap.objs.size)) { s with heap := h' }) :
    wpAny (model prog w) A (pyNext (.ref z)) Q E s := by
  have hTy : s.TypeIs (.ref z) "zip" := hz.typeIs
  unfold pyNext
  rcases hz with ⟨a, b, hz, hTO⟩ | ⟨T, b, o, hz, hT, t1, t2, t3, t4⟩
  · have n1 : s.heap.objs.size ≠ z := Nat.ne_of_gt (Heap.lt_size hz)
    have n2 : s.heap.objs.size ≠ TO := Nat.ne_of_gt (Heap.lt_size hTO)
    have n3 : s.heap.objs.size ≠ i1 := by obtain ⟨o1, e1, _⟩ := h1; exact Nat.ne_of_gt (Heap.lt_size e1)
    have n4 : s.heap.objs.size ≠ i2 := by obtain ⟨o1, e1, _⟩ := h2; exact Nat.ne_of_gt (Heap.lt_size e1)
    exact wpAny_bind (wpAny_attempt (wpAny_callSpecial?_slot (name := Str.ofString "__next__") hTy F.slot_zip_next
      (wpAny_call_entry F.slot_zip_next hTy F.entry_zip_next
        (zip_next_item D hz hTI hTO h1 h2 hl1 hl2 hx hy fun h' a1 a2 a3 a4 a5 a6 a7 => wpAny_pure (hQ h' (.inr ⟨_, _, _, a1, a5, n1, n2, n3, n4⟩) a3 a4 a5 a6 a7)) (F.args_zip_next_1 _))))
  · exact wpAny_bind (wpAny_attempt (wpAny_callSpecial?_slot (name := Str.ofString "__next__") hTy F.slot_zip_next
      (wpAny_call_entry F.slot_zip_next hTy F.entry_zip_next
        (zipL_item D hz hT hTI h1 h2 hl1 hl2 hx hy fun h' a1 a3 a4 a5 a6 a7 => wpAny_pure (hQ h' (.inr ⟨T, true, _, a1, a7 _ _ t1 t2 t3 t4 hT, t1, t2, t3, t4⟩) a3 a4 a5 a6 a7)) (F.args_zip_next_1 _))))
theorem next_end {z TI TO i1 i2 l1 l2 : Addr} {k : Nat} {xs ys : Array Value} {Q : Option Value → Shared → Prop} (hh : A.handled = none) (D : ZipApart z TI TO i1 i2 l1 l2)
    (hz : ZipAny s.heap z TI TO i1 i2) (hTI : IsPair s.heap TI (.ref i1) (.ref i2))
    (h1 : s.heap.IsListIter i1 l1 k) (h2 : s.heap.IsListIter i2 l2 k) (hl1 : s.heap.IsList l1 xs) (hl2 : s.heap.IsList l2 ys) (hend : xs[k]? = none ∨ ys[k]? = none)
    (hQ : ∀ h', (∀ c o, c ≠ z → c ≠ TO → c ≠ i1 → c ≠ i2 → s.heap.get? c = some o → h'.get? c = some o) → Q none { s with heap := h' }) :
    wpAny (model prog w) A (pyNext (.ref z)) Q E s := by
  have hTy : s.TypeIs (.ref z) "zip" := hz.typeIs
  have stop : ∀ (h' : Heap) (e : Addr), (∀ c o, c ≠ z → c ≠ TO → c ≠ i1 → c ≠ i2 → s.heap.get? c = some o → h'.get? c = some o) → (∃ o, h'.get? e = some o ∧ o.cls = .type "StopIteration") → _ :=
    fun h' e hk he => (hQ h' hk)
  unfold pyNext
  rcases hz with ⟨a, b, hz, hTO⟩ | ⟨T, b, o, hz, hT, t1, t2, t3, t4⟩
  · refine wpAny_bind (wpAny_attempt (wpAny_callSpecial?_slot (name := Str.ofString "__next__") hTy F.slot_zip_next
      (wpAny_call_entry F.slot_zip_next hTy F.entry_zip_next (zip_next_end hh D hz hTI hTO h1 h2 hl1 hl2 hend fun h' e hk he => ?_) (F.args_zip_next_1 _))))
    obtain ⟨o, ho, hc⟩ := he
    refine wpAny_bind (wpAny_isInstance (T := "StopIteration") (b := true) ⟨o, ho, hc⟩ isSubtype_stop ?_)
    exact wpAny_pure (hQ _ hk)
  · refine wpAny_bind (wpAny_attempt (wpAny_callSpecial?_slot (name := Str.ofString "__next__") hTy F.slot_zip_next
      (wpAny_call_entry F.slot_zip_next hTy F.entry_zip_next (zipL_end hh D hz hT hTI h1 h2 hl1 hl2 hend fun h' e hk he => ?_) (F.args_zip_next_1 _))))
    obtain ⟨o, ho, hc⟩ := he
    refine wpAny_bind (wpAny_isInstance (T := "StopIteration") (b := true) ⟨o, ho, hc⟩ isSubtype_stop ?_)
    exact wpAny_pure (hQ _ hk)
end
section
variable {prog : Program} {w : World} {A : Around} {s : Shared} {R : Result → Shared → Prop} {z TI TO i1 i2 l1 l2 S : Addr} {xs ys : Array Value} {J : Nat → Heap → Array Value → Prop}
/-- all that the rest of the walk needs of the heap -/
structure ZS (h : Heap) (z TI TO i1 i2 l1 l2 : Addr) (xs ys : Array Value) (k : Nat) : Prop where
  zip : ZipAny h z TI TO i1 i2
  ti : IsPair h TI (.ref i1) (.ref i2)
  it1 : h.IsListIter i1 l1 k
  it2 : h.IsListIter i2 l2 k
  ls1 : h.IsList l1 xs
  ls2 : h.IsList l2 ys
structure Off (S z TI TO i1 i2 l1 l2 : Addr) : Prop where
  z : S ≠ z
  TI : S ≠ TI
  TO : S ≠ TO
  i1 : S ≠ i1
  i2 : S ≠ i2
  l1 : S ≠ l1
  l2 : S ≠ l2
theorem ZS.put {h h' : Heap} {k : Nat} (Z : ZS h z TI TO i1 i2 l1 l2 xs ys k) (O : Off S z TI TO i1 i2 l1 l2) (hk : ∀ c o, c ≠ S → h.get? c = some o → h'.get? c = some o) (hS : ∃ o, h'.get? S = some o) : ZS h' z TI TO i1 i2 l1 l2 xs ys k :=
  ⟨Z.zip.put O.z O.TO hk hS, hk _ _ O.TI.symm Z.ti, Z.it1.at fun o e => hk _ o O.i1.symm e, Z.it2.at fun o e => hk _ o O.i2.symm e, Z.ls1.at fun o e => hk _ o O.l1.symm e, Z.ls2.at fun o e => hk _ o O.l2.symm e⟩
theorem ext_loop (hh : A.handled = none) (D : ZipApart z TI TO i1 i2 l1 l2) (O : Off S z TI TO i1 i2 l1 l2) (res : Value) (hn : min xs.size ys.size ≤ sizeLine)
    (Jn : ∀ i h acc h' x y, J i h acc → acc.size = i → xs[i]? = some x → ys[i]? = some y → IsPair h' h.objs.size x y → (∀ c o, c ≠ z → c ≠ TO → c ≠ i1 → c ≠ i2 → c ≠ S → h.get? c = some o → h'.get? c = some o) →
      h.objs.size + 1 = h'.objs.size → J (i + 1) h' (acc.push (.ref h.objs.size)))
    (hR : ∀ h acc h' c', J (min xs.size ys.size) h acc → (∀ c o, c ≠ z → c ≠ TO → c ≠ i1 → c ≠ i2 → c ≠ S → h.get? c = some o → h'.get? c = some o) →
      h'.get? S = some { cls := .type "list", dict := none, data := .seq acc c', slots := #[] } → R (.ok (.ret res)) { s with heap := h' }) :
    ∀ (k i : Nat) (h : Heap) (acc : Array Value) (c : Nat), min xs.size ys.size - i = k → i ≤ min xs.size ys.size → ZS h z TI TO i1 i2 l1 l2 xs ys i → h.get? S = some { cls := .type "list", dict := none, data := .seq acc c, slots := #[] } → acc.size = i → J i h acc →
    codeAny (model prog w) A (.builtin "list.extend.loop" ⟨[.ref S, .ref z, res], []⟩) R { s with heap := h } := by
  intro k
  induction k with
  | zero =>
    intro i h acc c hk hi Z hS ha hJ
    have hin : i = min xs.size ys.size := by omega
    subst hin
    refine codeAny_builtin F.entry_extend_loop ?_
    rw [Around.under_plainId F.plain_extend_loop _]
    show wpAny _ A.in1 (pyNext (.ref z) >>= _) _ _ _
    have hend : xs[min xs.size ys.size]? = none ∨ ys[min xs.size ys.size]? = none := by
      rcases Nat.le_total xs.size ys.size with q | q
      · exact .inl (by rw [Nat.min_eq_left q]; simp)
      · exact .inr (by rw [Nat.min_eq_right q]; simp)
    refine wpAny_bind (next_end (s := { s with heap := h }) hh D Z.zip Z.ti Z.it1 Z.it2 Z.ls1 Z.ls2 hend fun h' hk' => ?_)
    exact wpAny_pure (hR h acc h' c hJ (fun c o c1 c2 c3 c4 _ e => hk' c o c1 c2 c3 c4 e) (hk' _ _ O.z O.TO O.i1 O.i2 hS))
  | succ k ih =>
    intro i h acc c hk hi Z hS ha hJ
    have hlt : i < min xs.size ys.size := by omega
    have hix : i < xs.size := Nat.lt_of_lt_of_le hlt (Nat.min_le_left ..)
    have hiy : i < ys.size := Nat.lt_of_lt_of_le hlt (Nat.min_le_right ..)
    refine codeAny_builtin F.entry_extend_loop ?_
    rw [Around.under_plainId F.plain_extend_loop _]
    show wpAny _ A.in1 (pyNext (.ref z) >>= _) _ _ _
    refine wpAny_bind (next_item (s := { s with heap := h }) D Z.zip Z.ti Z.it1 Z.it2 Z.ls1 Z.ls2 (Array.getElem?_eq_getElem hix) (Array.getElem?_eq_getElem hiy) fun h' a1 a3 a4 a5 a6 hk' => ?_)
    have hS' := hk' _ _ O.z O.TO O.i1 O.i2 hS
    have hSlt : S < h.objs.size := Heap.lt_size hS
    show wpAny _ A.in1 (updateSeq S (·.push _) >>= _) _ _ _
    refine wpAny_bind ?_
    refine wpAny_updateSeq hS' rfl (wpAny_pure ⟨plainId_quiet F.plain_extend_loop _, ?_⟩) (by rw [ha]; omega) (by show (acc.push _).size ≤ sizeLine + 1; rw [Array.size_push, ha]; omega)
    have oth : ∀ c o, c ≠ S → h'.get? c = some o → (h'.update S (Obj.mapSeq (·.push (Value.ref h.objs.size)))).get? c = some o := fun c o hc e => (Heap.get?_update_other _ _ (Ne.symm hc)).trans e
    refine ih (i + 1) (h'.update S (Obj.mapSeq (·.push (Value.ref h.objs.size)))) (acc.push (.ref h.objs.size)) _ (by omega) hlt ?_ (Heap.get?_update_self _ hS' rfl) (by rw [Array.size_push, ha]) ?_
    · exact ZS.put (h := h') ⟨a1, hk' _ _ D.TIz D.TITO D.TIi1 D.TIi2 Z.ti, a3, a4, Z.ls1.at fun o e => hk' _ o D.l1z D.l1TO D.l1i1 D.l1i2 e, Z.ls2.at fun o e => hk' _ o D.l2z D.l2TO D.l2i1 D.l2i2 e⟩ O oth ⟨_, Heap.get?_update_self _ hS' rfl⟩
    · refine Jn i h acc _ _ _ hJ ha (Array.getElem?_eq_getElem hix) (Array.getElem?_eq_getElem hiy) ?_ (fun c o c1 c2 c3 c4 c5 e => oth c o c5 (hk' c o c1 c2 c3 c4 e)) (by rw [Heap.size_update]; exact a6.symm)
      exact oth _ _ (Nat.ne_of_gt hSlt) a5

theorem extend_zip {c₀ : Nat} (hh : A.handled = none) (D : ZipApart z TI TO i1 i2 l1 l2) (O : Off S z TI TO i1 i2 l1 l2) (res : Value) (hn : min xs.size ys.size ≤ sizeLine)
    (Z : ZS s.heap z TI TO i1 i2 l1 l2 xs ys 0) (hS : s.heap.get? S = some { cls := .type "list", data := .seq #[] c₀ })
    (J0 : ∀ h' : Heap, (∀ c o, c ≠ S → s.heap.get? c = some o → h'.get? c = some o) → S < h'.objs.size → J 0 h' #[])
    (Jn : ∀ i h acc h' x y, J i h acc → acc.size = i → xs[i]? = some x → ys[i]? = some y → IsPair h' h.objs.size x y → (∀ c o, c ≠ z → c ≠ TO → c ≠ i1 → c ≠ i2 → c ≠ S → h.get? c = some o → h'.get? c = some o) →
      h.objs.size + 1 = h'.objs.size → J (i + 1) h' (acc.push (.ref h.objs.size)))
    (hR : ∀ h acc h' c', J (min xs.size ys.size) h acc → (∀ c o, c ≠ z → c ≠ TO → c ≠ i1 → c ≠ i2 → c ≠ S → h.get? c = some o → h'.get? c = some o) →
      h'.get? S = some { cls := .type "list", dict := none, data := .seq acc c', slots := #[] } → R (.ok (.ret res)) { s with heap := h' }) :
    wpAny (model prog w) A.in1 (Builtin.List.listExtendWith (.ref S) (.ref z) res)
      (fun fin s' => match fin with | .done f => R (.ok f) s' | .again c' => c'.quiet = true ∧ codeAny (model prog w) A c' R s') (fun e s' => R (.error e) s') s := by
  have hTy : s.TypeIs (.ref z) "zip" := Z.zip.typeIs
  unfold Builtin.List.listExtendWith
  refine wpAny_bind (wpAny_typeOf hTy ?_)
  have h1 : Builtin.List.listSameRef (.ref S) (.ref z) = false := by simp [Builtin.List.listSameRef, O.z]
  have h2 : (Value.type "zip" == Value.type "list") = false := by decide
  have h3 : (Value.type "zip" == Value.type "tuple") = false := by decide
  simp only [h1, h2, h3, Bool.or_false, Bool.false_eq_true, if_false]
  have selfI : ∀ {Q : Value → Shared → Prop}, Q (.ref z) s → wpAny (model prog w) A.in1 (pyIter (.ref z)) Q (fun e s' => R (.error e) s') s := fun hq => by
    rcases Z.zip with ⟨a, b, hz, hTO⟩ | ⟨T, b, o, hz, hT, _⟩
    · exact wpAny_pyIter_zip hz hq
    · refine wpAny_pyIter_slot hTy F.slot_zip_iter (wpAny_call_entry F.slot_zip_iter hTy F.entry_zip_iter ?_ (F.args_zip_iter_1 _))
      show wpAny _ _ (ret (.ref z)) _ _ s
      exact wpAny_pure ⟨_, rfl, "zip", _, hTy, F.slot_zip_next.lookup, hq⟩
  refine wpAny_bind (selfI ?_)
  refine wpAny_bind (wpAny_holding ?_)
  unfold Builtin.List.listLengthHint
  refine wpAny_bind (wpAny_specialOf hTy zip_no_len ?_)
  show wpAny _ A.in1 (specialOf (Value.ref z) (Str.ofString "__length_hint__") >>= _) _ _ _
  refine wpAny_bind (wpAny_specialOf hTy zip_no_hint ?_)
  refine wpAny_pure ?_
  show wpAny _ A.in1 (rule "list.extend.makes-room" >>= fun _ => Builtin.List.listTouch (.ref S) >>= fun _ =>
    again (.builtin "list.extend.loop" ⟨[.ref S, .ref z, res], []⟩)) _ _ _
  refine wpAny_bind (wpAny_rule ?_)
  refine wpAny_bind ?_
  show wpAny _ A.in1 (updateSeq S (·.push .none) >>= fun _ => updateSeq S (·.pop)) _ _ _
  refine wpAny_bind (wpAny_updateSeq hS rfl ?_)
  have hS₂ := Heap.get?_update_self (Obj.mapSeq (·.push Value.none)) hS rfl
  refine wpAny_updateSeq (hz := by seq_fits) hS₂ rfl ?_
  have hS₃ := Heap.get?_update_self (Obj.mapSeq (·.pop)) hS₂ rfl
  have oth : ∀ b o, b ≠ S → s.heap.get? b = some o → ((s.heap.update S (Obj.mapSeq (·.push Value.none))).update S (Obj.mapSeq (·.pop))).get? b = some o :=
    fun b o hb e => (Heap.get?_update_other _ _ (Ne.symm hb)).trans ((Heap.get?_update_other _ _ (Ne.symm hb)).trans e)
  refine wpAny_pure ⟨plainId_quiet F.plain_extend_loop _, ext_loop hh D O res hn Jn hR _ 0 _ #[] _ rfl (Nat.zero_le _) (Z.put O oth ⟨_, hS₃⟩) hS₃ rfl (J0 _ oth (Heap.lt_size hS₃))⟩
end
section
variable {prog : Program} {w : World} {A : Around} {E : Value → Shared → Prop} {s : Shared} {z TI TO i1 i2 l1 l2 : Addr} {xs ys : Array Value} {J : Nat → Heap → Array Value → Prop}
/-- list(z), z a fresh zip of two lists -/
theorem call_list_zip {Q : Value → Shared → Prop} (hh : A.handled = none) (D : ZipApart z TI TO i1 i2 l1 l2) (hn : min xs.size ys.size ≤ sizeLine)
    (Z : ZS s.heap z TI TO i1 i2 l1 l2 xs ys 0) (hTO : TO < s.heap.objs.size)
    (J0 : ∀ h' : Heap, s.heap.objs.size < h'.objs.size → (∀ c o, s.heap.get? c = some o → h'.get? c = some o) → J 0 h' #[])
    (Jn : ∀ i h acc h' x y, J i h acc → acc.size = i → xs[i]? = some x → ys[i]? = some y → IsPair h' h.objs.size x y → (∀ c o, c ≠ z → c ≠ TO → c ≠ i1 → c ≠ i2 → c ≠ s.heap.objs.size → h.get? c = some o → h'.get? c = some o) →
      h.objs.size + 1 = h'.objs.size → J (i + 1) h' (acc.push (.ref h.objs.size)))
    (hQ : ∀ h acc h' c', J (min xs.size ys.size) h acc → (∀ c o, c ≠ z → c ≠ TO → c ≠ i1 → c ≠ i2 → c ≠ s.heap.objs.size → h.get? c = some o → h'.get? c = some o) →
      h'.get? s.heap.objs.size = some { cls := .type "list", dict := none, data := .seq acc c', slots := #[] } → Q (.ref s.heap.objs.size) { s with heap := h' }) :
    wpAny (model prog w) A (call (.type "list") [.ref z]) Q E s := by
  refine callType_codes (Q₁ := fun obj s₁ => obj = .ref s.heap.objs.size ∧ s₁ = { s with heap := s.heap.push { cls := .type "list", data := .seq #[] } }) F.called_list (F.typeCall_list_1 _) F.entry_list_init
    (code_list_new _ ⟨rfl, rfl⟩) fun obj s₁ h₁ => ?_
  obtain ⟨rfl, rfl⟩ := h₁
  have hS : (s.heap.push { cls := .type "list", data := .seq #[] }).get? s.heap.objs.size = some { cls := .type "list", data := .seq #[] } := Heap.get?_push_size _ rfl
  have lt : ∀ {c : Addr} {o : Obj}, s.heap.get? c = some o → s.heap.objs.size ≠ c := fun e => Nat.ne_of_gt (Heap.lt_size e)
  have O : Off s.heap.objs.size z TI TO i1 i2 l1 l2 := by
    refine ⟨?_, lt Z.ti, Nat.ne_of_gt hTO, ?_, ?_, ?_, ?_⟩
    · rcases Z.zip with ⟨a, b, hz, _⟩ | ⟨T, b, o, hz, hT, _⟩
      · exact lt hz
      · exact lt hz
    · obtain ⟨o, e, _⟩ := Z.it1; exact lt e
    · obtain ⟨o, e, _⟩ := Z.it2; exact lt e
    · obtain ⟨o, e, _⟩ := Z.ls1; exact lt e
    · obtain ⟨o, e, _⟩ := Z.ls2; exact lt e
  refine ⟨⟨_, hS, rfl⟩, F.args_list_init_2 _ _, ?_⟩
  show wpAny _ A.in1.in1 (do let old ← Builtin.List.listItems (.ref s.heap.objs.size); Builtin.List.listUpdate (.ref s.heap.objs.size) (fun _ => #[]); letGo old.toList.reverse; Builtin.List.listExtendWith (.ref s.heap.objs.size) (.ref z) .none) _ _ _
  refine wpAny_bind ?_
  unfold Builtin.List.listItems
  refine wpAny_bind (wpAny_seqItems hS rfl (wpAny_pure ?_))
  show wpAny _ A.in1.in1 (updateSeq s.heap.objs.size (fun _ => #[]) >>= fun _ => letGo (#[] : Array Value).toList.reverse >>= fun _ => Builtin.List.listExtendWith (.ref s.heap.objs.size) (.ref z) .none) _ _ _
  refine wpAny_bind (wpAny_updateSeq hS rfl ?_)
  have hS₂ := Heap.get?_update_self (Obj.mapSeq (fun _ => (#[] : Array Value))) hS rfl
  have oth : ∀ b o, b ≠ s.heap.objs.size → s.heap.get? b = some o → ((s.heap.push { cls := .type "list", data := .seq #[] }).update s.heap.objs.size (Obj.mapSeq (fun _ => (#[] : Array Value)))).get? b = some o :=
    fun b o hb e => (Heap.get?_update_other _ _ (Ne.symm hb)).trans (Heap.get?_push_of_some _ e)
  have oth' : ∀ b o, s.heap.get? b = some o → ((s.heap.push { cls := .type "list", data := .seq #[] }).update s.heap.objs.size (Obj.mapSeq (fun _ => (#[] : Array Value)))).get? b = some o := fun b o e => oth b o (lt e).symm e
  refine wpAny_bind (wpAny_letGo ?_)
  refine extend_zip (prog := prog) (w := w) (A := A.in1) (R := wants (fun r s₂ => r = Value.none ∧ Q (Value.ref s.heap.objs.size) s₂) E) (s := { s with heap := (s.heap.push { cls := .type "list", data := .seq #[] }).update s.heap.objs.size (Obj.mapSeq (fun _ => (#[] : Array Value))) }) (J := J) hh D O .none hn
    ⟨Z.zip.at oth', oth' _ _ Z.ti, Z.it1.at fun o e => oth' _ _ e, Z.it2.at fun o e => oth' _ _ e, Z.ls1.at fun o e => oth' _ _ e, Z.ls2.at fun o e => oth' _ _ e⟩ hS₂
    (fun h' hk hl => J0 h' hl fun c o e => hk c o (lt e).symm (oth' c o e)) Jn fun h acc h' c' hJ hk hS' => ⟨rfl, hQ h acc h' c' hJ hk hS'⟩
end
end RZ

namespace L2
open PySem PySem.Spec PyProof.Rows
/-- new pairs laid one by one -/
inductive ZPrs : Hp → List (V × V) → Hp → List Addr → Prop
  | nil {H : Hp} : ZPrs H [] H []
  | snoc {H H1 : Hp} {ps : List (V × V)} {Ts : List Addr} {p : V × V} {T : Addr} (h : ZPrs H ps H1 Ts) {u : HO} (hT : H1 T = none) (hu : RI.NT [p.1, p.2] u) : ZPrs H (ps ++ [p]) (upd H1 T u) (Ts ++ [T])
theorem ZPrs.length {H H1 : Hp} {ps : List (V × V)} {Ts : List Addr} (h : ZPrs H ps H1 Ts) : Ts.length = ps.length := by
  induction h with
  | nil => rfl
  | snoc h hT hu ih => simp [ih]
def tLZ (K : PySem.W.Frag) (ta : TA) : TE := fun σ H Q => ta σ H fun vs H1 => ∃ a b xs ys, vs = [.ref a, .ref b] ∧ SqL K H1 a xs ∧ SqL K H1 b ys ∧
  ∀ H2 Ts, ZPrs H1 (xs.zip ys) H2 Ts → ∀ l, H2 l = none → Q (.ref l) (upd H2 l (.lst (Ts.map V.ref)))
theorem vals_refsZ : ∀ Ts : List Addr, Vals (Ts.map V.ref) (Ts.map Value.ref)
  | [] => .nil
  | _ :: Ts => .cons rfl (vals_refsZ Ts)
theorem take_snoc {α : Type} {l : List α} {i : Nat} {x : α} (h : l[i]? = some x) : l.take (i + 1) = l.take i ++ [x] := by
  rw [List.take_add_one, h]; rfl
section
variable {X : Cx} {e e2 : Expr} {ta : TA} {p p2 p3 pos : Pos}
theorem pe_listZip (hc : X.calm = true) (hg : Gl X "list") (hm : X.mg "list" = none) (hg2 : Gl X "zip") (hm2 : X.mg "zip" = none) (ha : PA X [e, e2] ta)
    (hs : starEach [e, e2] X.env = (false, eval e X.env) :: starEach [e2] X.env := by rfl) (hpl : (backTo p3 (starEach [e2] X.env)).any (·.1) = false := by rfl)
    (na : starEach [.Call (.Name "zip" p2) [e, e2] [] p3] X.env = (false, eval (.Call (.Name "zip" p2) [e, e2] [] p3) X.env) :: starEach [] X.env := by rfl) :
    PE X (.Call (.Name "list" p) [.Call (.Name "zip" p2) [e, e2] [] p3] [] pos) (tLZ X.K ta) := by
  refine ⟨fun pins s σ H R I h => ?_⟩
  refine Call_ (ld_blt I hg hm boot_list (PyProof.Rows.callWith_type1 (args_cons (Call_ (ld_blt I hg2 hm2 PyProof.Rows.boot_zip (PyProof.Rows.callWith_type1 (thn (ha.run p3 pins s σ H _ I h) fun us s1 ⟨vs, H1, I1, r1, q1⟩ => ?_) hs hpl))) na) na))
  obtain ⟨a, b, xs, ys, ex, hqx, hqy, q⟩ := q1
  subst ex
  cases r1 with
  | cons r rr =>
    cases rr with
    | cons r' rr =>
      cases rr
      cases r
      cases r'
      obtain ⟨its, rv, p1, z1⟩ := I1.list hqx
      obtain ⟨its2, rv2, p2, z2⟩ := I1.list hqy
      have la : a < s1.heap.objs.size := p1.lt
      have lb : b < s1.heap.objs.size := p2.lt
      have D := PySem.W.ktu_apart s1.heap.objs.size a b la lb
      have n1 := rv.length
      have n2 := rv2.length
      refine call_zip_2 p1.isList p2.isList fun h' hz hTI hTO h1 h2 hsz hk => args_nil ?_
      have five : ∀ (h' : Heap), h'.objs.size = s1.heap.objs.size + 5 → ∀ {c : Addr}, c ∈ [s1.heap.objs.size + 4, s1.heap.objs.size + 3, s1.heap.objs.size, s1.heap.objs.size + 1, h'.objs.size] → s1.heap.objs.size ≤ c ∧ c ≤ h'.objs.size := fun h' hsz c hcm => by
        simp only [List.mem_cons, List.mem_singleton, List.not_mem_nil, or_false] at hcm
        rcases hcm with rfl | rfl | rfl | rfl | rfl <;> constructor <;> (try rw [hsz]) <;> first | exact Nat.le_refl _ | exact Nat.le_add_right _ _ | exact Nat.add_le_add_left (by decide) _
      have fp0 : ∀ {H2 : Hp} {c : Addr}, c ∈ [s1.heap.objs.size + 4, s1.heap.objs.size + 3, s1.heap.objs.size, s1.heap.objs.size + 1, h'.objs.size] → H2 c = none → FpOk X pins H2 c := fun {H2 c} hcm hn => by
        exact I1.fpOk (five h' hsz hcm).1 hn
      refine RZ.call_list_zip (s := { s1 with heap := h' }) (J := fun i h acc => h'.objs.size < h.objs.size ∧ ∃ H2 Ts, Inv X pins σ H2 { s1 with heap := h } ∧ ZPrs H1 ((xs.zip ys).take i) H2 Ts ∧ acc = (Ts.map Value.ref).toArray ∧
          ∀ c ∈ [s1.heap.objs.size + 4, s1.heap.objs.size + 3, s1.heap.objs.size, s1.heap.objs.size + 1, h'.objs.size], H2 c = none)
        (I1.ok.hd hc) D (by simp; omega)
        ⟨.inl ⟨_, _, hz, hTO⟩, hTI, h1, h2, p1.isList.at fun o e => hk _ o e, p2.isList.at fun o e => hk _ o e⟩ (Heap.lt_size hTO) ?_ ?_ ?_
      · intro h'' hl hk2
        refine ⟨hl, H1, [], I1.kept (t' := s1.toks) fun c o e => hk2 c o (hk c o e), by simpa using ZPrs.nil, rfl, fun c hcm => ?_⟩
        exact I1.hok.fresh (five h' hsz hcm).1
      · rintro i h acc h'' x y ⟨hl, H2, Ts, I2, P2, rfl, hn⟩ ha hx hy hp hk2 hsz2
        have hx' : its[i]? = some x := by simpa using hx
        have hy' : its2[i]? = some y := by simpa using hy
        have hi1 : i < xs.length := by rw [n1]; exact (List.getElem?_eq_some_iff.mp hx').1
        have hi2 : i < ys.length := by rw [n2]; exact (List.getElem?_eq_some_iff.mp hy').1
        obtain ⟨u, hu, ru⟩ := rv.get (List.getElem?_eq_getElem hi1)
        obtain ⟨u2, hu2, ru2⟩ := rv2.get (List.getElem?_eq_getElem hi2)
        rw [hx'] at hu
        rw [hy'] at hu2
        cases hu
        cases hu2
        have hfr : H2 h.objs.size = none := I2.hok.fresh (Nat.le_refl _)
        have new : ObjOk X.prog X.w (upd H2 h.objs.size (.frz (RI.tupO [x, y]) (.tup [xs[i], ys[i]]))) h'' h.objs.size (.frz (RI.tupO [x, y]) (.tup [xs[i], ys[i]])) :=
          RI.tupO_ok (by show 2 ≤ sizeLine; decide) (.cons ru (.cons ru2 .nil)) hp
        refine ⟨by omega, upd H2 h.objs.size (.frz (RI.tupO [x, y]) (.tup [xs[i], ys[i]])), Ts ++ [h.objs.size], ?_, ?_, by simp, fun c hcm => ?_⟩
        · exact I2.turnedNew (t' := s1.toks) (ch := [s1.heap.objs.size + 4, s1.heap.objs.size + 3, s1.heap.objs.size, s1.heap.objs.size + 1, h'.objs.size])
            (fun c o hcn e => hk2 c o (fun z => hcn (by simp [z])) (fun z => hcn (by simp [z])) (fun z => hcn (by simp [z])) (fun z => hcn (by simp [z])) (fun z => hcn (by simp [z])) e)
            (fun c hcm => fp0 hcm (hn c hcm)) (Nat.le_refl _) new
        · rw [take_snoc (x := (xs[i], ys[i])) (by rw [List.getElem?_eq_getElem (by simp; omega)]; simp)]
          exact P2.snoc hfr .new
        · rw [upd_ne]
          · exact hn c hcm
          · exact Nat.ne_of_lt (Nat.lt_of_le_of_lt (five h' hsz hcm).2 hl)
      · rintro h acc h'' c' ⟨hl, H2, Ts, I2, P2, rfl, hn⟩ hk2 hS
        have e1 : min its.toArray.size its2.toArray.size = (xs.zip ys).length := by simp [n1, n2]
        rw [e1, List.take_length] at P2
        have I3 : Inv X pins σ H2 { s1 with heap := h'' } := Inv.turnedL (s := { s1 with heap := h }) (h' := h'') I2 (t' := s1.toks) (ch := [s1.heap.objs.size + 4, s1.heap.objs.size + 3, s1.heap.objs.size, s1.heap.objs.size + 1, h'.objs.size])
            (fun c o hcn e => hk2 c o (fun z => hcn (by simp [z])) (fun z => hcn (by simp [z])) (fun z => hcn (by simp [z])) (fun z => hcn (by simp [z])) (fun z => hcn (by simp [z])) e)
            (fun c hcm => fp0 hcm (hn c hcm))
        refine ⟨.ref h'.objs.size, upd H2 h'.objs.size (.lst (Ts.map V.ref)), I3.take (t' := s1.toks) (fun c o _ e => e) (fp0 (by simp) (hn _ (by simp))) ?_, rfl, q H2 Ts P2 _ (hn _ (by simp))⟩
        exact ⟨by rw [List.length_map, P2.length, List.length_zip]; omega, _, c', vals_refsZ Ts, hS⟩
end
end L2
/-! RI36: list(zip(a, b)); len(set(ints)); {i: x}; list(range(n)) that gets a cell. -/
namespace RI
open PySem PySem.Spec PyProof.Rows L2
section
variable {G : Wd} {ex : Ex} {Wx : L2.WX} {C : Ctx} {k : Nat} {X : Cx} {pos p p2 p3 p4 : Pos} {x : Str} {i j : Nat} {a b e : Expr} {ia ib : IE}
def PRel (G : Wd) (L : Addr → Prop) (H : Hp) (ds : List (D × D)) (ps : List (V × V)) : Prop :=
  ds.length = ps.length ∧ ∀ (i : Nat) (d : D × D) (q : V × V), ds[i]? = some d → ps[i]? = some q → RelD G L H d.1 q.1 ∧ RelD G L H d.2 q.2
theorem prel_zip {L : Addr → Prop} {H : Hp} : ∀ {xs ys : List D} {vs us : List V}, RelDs G L H xs vs → RelDs G L H ys us → PRel G L H (xs.zip ys) (vs.zip us)
  | _, _, _, _, .nil, _ => ⟨rfl, fun i d q h => by simp at h⟩
  | _, _, _, _, .cons _ _, .nil => ⟨rfl, fun i d q h => by simp at h⟩
  | _, _, _, _, .cons r rs, .cons t ts => by
    obtain ⟨h1, h2⟩ := prel_zip rs ts
    refine ⟨by simpa using h1, fun i d q hd hq => ?_⟩
    cases i with
    | zero =>
      simp at hd hq
      subst hd hq
      exact ⟨r, t⟩
    | succ i => exact h2 i d q (by simpa using hd) (by simpa using hq)
theorem zprs_rel {H H2 : Hp} {ps : List (V × V)} {Ts : List Addr} (h : ZPrs H ps H2 Ts) {ρ : Rho} {S : Store} (R : RelS G ρ S H) :
    Ext ρ S H ρ S H2 ∧ RelS G ρ S H2 ∧ ∀ ds : List (D × D), PRel G (Live ρ S) H ds ps → RelDs G (Live ρ S) H2 (ds.map fun d => .tup [d.1, d.2]) (Ts.map V.ref) := by
  induction h with
  | nil => exact ⟨.refl, R, fun ds hd => by
      have : ds = [] := List.eq_nil_of_length_eq_zero hd.1
      subst this
      exact .nil⟩
  | @snoc H1 ps Ts q T h u0 hT hu0 ih =>
    obtain ⟨e, R1, hr⟩ := ih
    have e2 := Ext.newObj (ρ := ρ) (S := S) (H := H1) (o := u0) hT
    refine ⟨e.trans e2, R1.newObj hT, fun ds hd => ?_⟩
    obtain ⟨hl, hg⟩ := hd
    have hne : ds ≠ [] := fun z => by subst z; simp at hl
    obtain ⟨ds', d, rfl⟩ : ∃ ds' d, ds = ds' ++ [d] := ⟨ds.dropLast, ds.getLast hne, (List.dropLast_concat_getLast hne).symm⟩
    have hl' : ds'.length = ps.length := by simpa using hl
    have r1 := hr ds' ⟨hl', fun i d q h1 h2 => hg i d q (by rw [List.getElem?_append_left (List.getElem?_eq_some_iff.mp h1).1]; exact h1) (by rw [List.getElem?_append_left (List.getElem?_eq_some_iff.mp h2).1]; exact h2)⟩
    obtain ⟨g1, g2⟩ := hg ds'.length d q (by simp) (by rw [hl']; simp)
    rw [List.map_append, List.map_append]
    exact (r1.mono e2.kp).append (.cons (RelD.newTup R1 hT hu0 (.cons (g1.mono e.kp) (.cons (g2.mono e.kp) .nil))) .nil)
/-- list(zip(a, b)) -/
theorem e_lzip (S : Sd G Wx C k X) (hcm : X.calm = true) (hg : Gl X "list") (hg2 : Gl X "zip") (ha : PE X a (RE G none Wx C ia)) (hb : PE X b (RE G none Wx C ib))
    (h1 : starEach [a, b] X.env = (false, eval a X.env) :: starEach [b] X.env := by rfl) (h2 : starEach [b] X.env = (false, eval b X.env) :: starEach [] X.env := by rfl)
    (hpl : (backTo p3 (starEach [b] X.env)).any (·.1) = false := by rfl)
    (na : starEach [.Call (.Name "zip" p2) [a, b] [] p3] X.env = (false, eval (.Call (.Name "zip" p2) [a, b] [] p3) X.env) :: starEach [] X.env := by rfl) :
    PE X (.Call (.Name "list" p) [.Call (.Name "zip" p2) [a, b] [] p3] [] pos) (RE G none Wx C (.lzip ia ib)) :=
  (pe_listZip hcm hg (S.bmg _ (by decide)) hg2 (S.bmg _ (by decide)) (pa_cons ha (pa_cons hb pa_nil h2) h1) h1 hpl na).of fun σ H Q ⟨ρ, η, St, R, h0⟩ => rd1 (f := fun w S1 => ((evalP C ib).1 η S1).bind fun u S2 => match w, u with
    | .d (.lst xs), .d (.lst ys) => .ok (W.d (.lst ((xs.zip ys).map fun p => .tup [p.1, p.2]))) S2
    | _, _ => .stk) R h0 fun w v ρ1 S1 H1 R1 e1 r1 h1 => rd1 R1 h1 fun w2 v2 ρ2 S2 H2 R2 e2 r2 h2 => by
    split at h2
    · next xs ys =>
      cases r1 with
      | d r1 =>
        have r1' := r1.mono e2.kp
        cases r1' with
        | lst q1 n1 rs1 =>
          cases r2 with
          | d r2 =>
            cases r2 with
            | lst q2 n2 rs2 =>
              refine ⟨_, _, _, _, rfl, .inl (.inl q1), .inl (.inl q2), fun H3 Ts hz l hl => ?_⟩
              obtain ⟨e3, R3, hr⟩ := zprs_rel hz R2.st
              exact h2.after (e3.trans (Ext.newObj hl)) (R3.newObj hl) _ (.d (RelD.newLst R3 hl (hr _ (prel_zip rs1 rs2))))
    · exact h2.elim
/-- list(range(n)) that gets a cell -/
theorem e_lrngT (S : Sd G Wx C k X) (hcm : X.calm = true) (hg : Gl X "list") (hg2 : Gl X "range") (ha : PE X a (RE G none Wx C ia)) (na : starEach [a] X.env = (false, eval a X.env) :: starEach [] X.env := by rfl)
    (na2 : starEach [.Call (.Name "range" p2) [a] [] p3] X.env = (false, eval (.Call (.Name "range" p2) [a] [] p3) X.env) :: starEach [] X.env := by rfl) :
    PE X (.Call (.Name "list" p) [.Call (.Name "range" p2) [a] [] p3] [] pos) (RE G none Wx C (.thaw (.lrng ia))) :=
  (pe_listRg hcm hg (S.bmg _ (by decide)) (prg_1 hg2 (S.bmg _ (by decide)) ha na) na2).of fun σ H Q h => by
    obtain ⟨ρ, η, St, R, h0⟩ := h
    replace h0 : Sat G (fun c d H => Wx c d σ H) ρ St H ((((evalP C ia).1 η St).bind fun w S1 => match w with
      | .d (.int n) => if -lineR ≤ n ∧ n < 16777216 then .ok (W.d (.lst ((List.range n.toNat).map fun i => .int (i : Nat)))) S1 else .stk
      | _ => .stk).bind fun w S1 => thawD w S1) _ := h0
    rw [Res.bind_assoc] at h0
    refine rd1 (f := fun w S1 => (match w with
      | .d (.int n) => if -lineR ≤ n ∧ n < 16777216 then Res.ok (W.d (.lst ((List.range n.toNat).map fun i => .int (i : Nat)))) S1 else .stk
      | _ => .stk).bind fun w S1 => thawD w S1) R h0 fun w v ρ1 S1 H1 R1 e1 r1 h1 => ?_
    cases r1 with
    | d r1 =>
      cases r1 with
      | int n =>
        dsimp only at h1
        split at h1
        · next hn =>
          rw [lineR_eq] at hn
          rw [Res.bind_ok] at h1
          refine ⟨n, rfl, ⟨by decide, by decide, hn.1, by omega, by omega⟩, fun q hq => ?_⟩
          exact h1.after (Ext.newCell (c := .lst ((List.range n.toNat).map fun i => D.int (i : Nat))) (o := .lst (rgV 0 n)) R1.st hq) (R1.st.newLst hq (rgV_rel n)) _ (.loc (by rw [← R1.st.len]; exact app_get _ _))
        · exact h1.elim
      | _ => exact (show False from h1).elim
    | _ => exact (show False from h1).elim
/-- {i: x} -/
theorem e_dic1v {n : Int} {kk} (hN : X.N[j]? = some x) (hv : visB X.env.scope x = true) (hd : noDunder x = true) :
    PE X (.Dict [some (.Constant (.int n) kk p)] [.Name x p2] pos) (RE G ex Wx C (.dic1 (.int n) (.var j))) :=
  (pe_disp (pps_cons pe_int (pe_var hN (vis_of hv) (nd1 hd) (nd2 hd)) pps_nil) rfl rfl (by simp) (show 1 ≤ 15 by decide)).of fun σ H Q ⟨ρ, η, S, R, h0⟩ q hq => by
    replace h0 : Sat G (fun c d H => Wx c d σ H) ρ S H ((ofO (getV η j) S).bind fun y S2 => (toD y S2).bind fun z S3 => .ok (W.d (.dic [(.int n, z)])) S3) _ := h0
    obtain ⟨w, e, h2⟩ := h0.ofO_bind
    obtain ⟨v, e2, r⟩ := R.get e
    obtain ⟨z, S3, e3, R3, r3, h3⟩ := h2.toD_bind R.st r
    refine ⟨v, e2, upd_same .., [(.inl n, v)], rfl, (show 1 ≤ 15 by decide), ?_⟩
    have eu : upd (upd H q (.dK [])) q (.dK (mergeK [] [(.inl n, v)])) = upd H q (.dK [(.inl n, v)]) := by
      funext b
      by_cases hb : b = q
      · subst hb; rw [upd_same, upd_same]; rfl
      · rw [upd_ne hb, upd_ne hb, upd_ne hb]
    rw [eu]
    exact (h3.from (Ext.newObj hq)).now (R3.newObj hq) _ (.d (.dic (upd_same ..) (R3.fresh hq) (.cons rfl (r3.mono (Ext.newObj (ρ := ρ) (S := S3) hq).kp) .nil)))

theorem nodup_eq {a b : List Int} (ha : a.Nodup) (hb : b.Nodup) (h : ∀ j, j ∈ a ↔ j ∈ b) : a.length = b.length :=
  Nat.le_antisymm (nodup_le ha fun x hx => (h x).mp hx) (nodup_le hb fun x hx => (h x).mpr hx)
theorem sortU_nodup (ns : List Int) : (sortU ns).Nodup := (sortU_sorted ns).imp fun h e => by subst e; omega
theorem setR_eq {w : World} {h : Heap} {a : Addr} {ns : List Int} {n : Nat} (R : SetR w h a (fun j => decide (j ∈ ns)) n) : n = (sortU ns).length := by
  obtain ⟨o, es, ep, t, h1, h2, h3, h4, h5, h6, h7, h8, h9, _⟩ := R
  rw [← h9, ← Array.length_toList, ← List.length_map (f := keyOf)]
  exact nodup_eq h5 (sortU_nodup ns) fun j => by rw [← h6 j, mem_sortU]; simp
/-- len(set(t)), t a tuple or list of ints -/
def tLenS (K : PySem.W.Frag) (ta : TE) : TE := fun σ H Q => ta σ H fun x H1 => ∃ (l : Addr) (ns : List Int), x = V.ref l ∧ (SqT K H1 l (ns.map V.int) ∨ SqL K H1 l (ns.map V.int)) ∧ ns.length < 4000 ∧ Q (.int ((sortU ns).length : Nat)) H1
theorem pe_lenS {ta : TE} (hc : X.calm = true) (hg : Gl X "len") (hm : X.mg "len" = none) (hg2 : Gl X "set") (hm2 : X.mg "set" = none) (ha : PE X a ta)
    (na : starEach [a] X.env = (false, eval a X.env) :: starEach [] X.env := by rfl) : PE X (.Call (.Name "len" p) [.Call (.Name "set" p2) [a] [] p3] [] pos) (tLenS X.K ta) := by
  refine ⟨fun pins s σ H Q I h => ?_⟩
  refine Call_ (ld_blt I hg hm PySem.boot_len ?_)
  refine PyProof.Rows.callWith_builtin1 (PyProof.Rows.args_cons ?_ rfl) rfl rfl
  refine Call_ (ld_blt I hg2 hm2 PyProof.Rows.boot_set ?_)
  refine PyProof.Rows.callWith_type1 (PyProof.Rows.args_cons (thn (ha.run pins s σ H _ I h) fun v s1 ⟨x, H1, I1, r1, q1⟩ => PyProof.Rows.args_nil ?_) na) na rfl
  obtain ⟨l, ns, rfl, hq, h1, q1⟩ := q1
  cases r1
  have fin : ∀ (h' : Heap) (tk c : Nat), SetR X.w h' s1.heap.objs.size (fun j => decide (j ∈ ns)) c → (∀ b o, s1.heap.get? b = some o → h'.get? b = some o) →
      wpAny (model X.prog X.w) X.A (call (.builtin "len") [.ref s1.heap.objs.size]) (fun v s' => ∃ x H', Inv X pins σ H' s' ∧ RelV x v ∧ Q x H') X.xe { s1 with heap := h', toks := tk } := by
    intro h' tk c hS hk
    have hn := setR_eq hS
    have hc4 : (sortU ns).length ≤ ns.length := by
      have := nodup_le (sortU_nodup ns) fun x hx => mem_sortU.mp hx
      exact this
    obtain ⟨o, es, ep, t, ho, hex, hd, _, _, _, _, hf, hsz, _⟩ := hS
    have I2 : Inv X pins σ H1 { s1 with heap := h', toks := tk } := I1.kept hk
    refine call_len_set ho hex hd hf (by rw [hsz] <;> omega) ⟨.int (sortU ns).length, H1, I2.tok _, ⟨_, by rw [hsz, hn]⟩, q1⟩
  rcases hq with hq | hq
  · obtain ⟨its, r, pl, hz⟩ := I1.tuple hq
    exact call_set_tupI ns (I1.ok.hd hc) pl (by simpa using ints_of_vals r) (Nat.lt_of_le_of_lt (Nat.succ_le_of_lt h1) (by decide)) fun h' tk c hS hn kp => PyProof.Rows.args_nil (fin h' tk c hS kp)
  · obtain ⟨its, r, pl, hz⟩ := I1.list hq
    exact call_set_lstI ns (I1.ok.hd hc) pl.isList (by simpa using ints_of_vals r) (Nat.lt_of_le_of_lt (Nat.succ_le_of_lt h1) (by decide)) fun h' tk c hS hn kp => PyProof.Rows.args_nil (fin h' tk c hS kp)
theorem e_setlen (S : Sd G Wx C k X) (hcm : X.calm = true) (hg : Gl X "len") (hg2 : Gl X "set") (ha : PE X a (RE G ex Wx C ia)) (na : starEach [a] X.env = (false, eval a X.env) :: starEach [] X.env := by rfl) :
    PE X (.Call (.Name "len" p) [.Call (.Name "set" p2) [a] [] p3] [] pos) (RE G ex Wx C (.setop .len ia)) :=
  (pe_lenS hcm hg (S.bmg _ (by decide)) hg2 (S.bmg _ (by decide)) ha na).of
  fun σ H Q ⟨ρ, η, St, R, h0⟩ => rd1 (f := fun x S1 => (ofO (setD .len x S1) S1).bind fun z S2 => .ok (W.d z) S2) R h0 fun w v ρ1 S1 H1 R1 e1 r1 h1 => by
    obtain ⟨z, ez, h2⟩ := h1.ofO_bind
    have ez' : ((seqOf w S1).bind fun p => (intsOf p.2).bind fun ns => if ns.length < 4000 then some (D.int ((sortU ns).length : Nat)) else none) = some z := ez
    rw [Option.bind_eq_some_iff] at ez'
    obtain ⟨⟨kk, xs⟩, e1', ez'⟩ := ez'
    rw [Option.bind_eq_some_iff] at ez'
    obtain ⟨ns, e2, e3⟩ := ez'
    split at e3
    · next hl =>
      cases e3
      obtain ⟨t, vs, rfl, hk, rs⟩ := r1.seqOf R1.st e1'
      have ev := rs.ofInts e2
      subst ev
      refine ⟨t, ns, rfl, ?_, hl, h2.now R1.st _ (.d (.int _))⟩
      rw [S.hK]
      rcases hk with ⟨_, h⟩ | ⟨_, h⟩
      · exact .inl h.sq
      · exact .inr h
    · cases e3
end
end RI
/-! RI37: dicts whose keys are tuples of ints. -/
namespace RI
open PySem PySem.Spec PyProof.Rows L2
section
variable {G : Wd} {ex : Ex} {Wx : L2.WX} {C : Ctx} {k : Nat} {X : Cx} {pos p p2 p3 : Pos} {a b c o e : Expr} {ia ib io ii : IE} {ρ : Rho} {S : Store} {H : Hp} {L : Addr → Prop}
theorem RelTs.keys {kvs : List (List Int × D)} {T : List (List Int × Addr × V)} (h : RelTs G L H kvs T) : KeysOk G.K H T := by
  induction h with
  | nil => intro p hp; exact nomatch hp
  | cons e r t ih =>
    intro p hp
    rcases List.mem_cons.mp hp with rfl | hp
    · exact e
    · exact ih p hp
theorem RelTs.length {kvs : List (List Int × D)} {T : List (List Int × Addr × V)} (h : RelTs G L H kvs T) : kvs.length = T.length := by
  induction h with
  | nil => rfl
  | cons e r t ih => simp [ih]
theorem RelTs.look {ks : List Int} {kvs : List (List Int × D)} {T : List (List Int × Addr × V)} (h : RelTs G L H kvs T) : GotD G L H (tlook kvs ks) (valT T ks) := by
  induction h with
  | nil => rfl
  | @cons ks' b x v kvs T e r t ih =>
    by_cases z : ks' = ks
    · have e1 : tlook ((ks', x) :: kvs) ks = some x := by simp [tlook, z]
      have e2 : valT ((ks', b, v) :: T) ks = some v := by simp [valT, z]
      rw [e1, e2]
      exact ⟨v, rfl, r⟩
    · have e1 : tlook ((ks', x) :: kvs) ks = tlook kvs ks := by simp [tlook, z]
      have e2 : valT ((ks', b, v) :: T) ks = valT T ks := by simp [valT, z]
      rw [e1, e2]
      exact ih
theorem GotD.isSome {o : Option D} {q : Option V} (h : GotD G L H o q) : q.isSome = o.isSome := by
  cases o with
  | some y => obtain ⟨u, rfl, _⟩ := h; rfl
  | none => rw [show q = none from h]; rfl
theorem RelTs.snoc {ks : List Int} {q : Addr} {y : D} {v : V} (hq : SqT G.K H q (ks.map V.int)) (ry : RelD G L H y v) {kvs : List (List Int × D)} {T : List (List Int × Addr × V)} (h : RelTs G L H kvs T) : RelTs G L H (kvs ++ [(ks, y)]) (T ++ [(ks, q, v)]) := by
  induction h with
  | nil => exact .cons hq ry .nil
  | cons e r t ih => exact .cons e r ih
theorem RelTs.repl {ks : List Int} {y : D} {v : V} (ry : RelD G L H y v) {kvs : List (List Int × D)} {T : List (List Int × Addr × V)} (h : RelTs G L H kvs T) :
    RelTs G L H (kvs.map fun p => if p.1 = ks then (p.1, y) else p) (T.map fun p => if p.1 = ks then (p.1, p.2.1, v) else p) := by
  induction h with
  | nil => exact .nil
  | @cons ks' b x v' kvs T e r t ih =>
    simp only [List.map_cons]
    by_cases z : ks' = ks
    · rw [if_pos z, if_pos z]
      exact .cons e ry ih
    · rw [if_neg z, if_neg z]
      exact .cons e r ih
theorem RelTs.put {ks : List Int} {q : Addr} {y : D} {v : V} (hq : SqT G.K H q (ks.map V.int)) (ry : RelD G L H y v) {kvs : List (List Int × D)} {T : List (List Int × Addr × V)} (h : RelTs G L H kvs T) : RelTs G L H (tput kvs ks y) (putTD T ks q v) := by
  unfold tput putTD
  rw [(h.look (ks := ks)).isSome]
  split
  · exact h.repl ry
  · exact h.snoc hq ry
theorem tic_of {w : W} {v : V} {kvs : List (List Int × D)} (R : RelS G ρ S H) (r : RelW G ex (Live ρ S) ρ H w v) (h : ticOf w S = some kvs) : ∃ a T, v = .ref a ∧ H a = some (DTO a T) ∧ RelTs G (Live ρ S) H kvs T := by
  unfold ticOf at h
  split at h
  · next l =>
    split at h
    · next kvs' hc =>
      cases h
      cases r with
      | loc hl => cases R.cell _ _ _ hc hl with
        | dtt h1 h2 => exact ⟨_, _, rfl, h1, h2⟩
    · cases h
  · cases h
theorem keyI {d : D} {v : V} {ks : List Int} (r : RelD G L H d v) (h : keysI d = some ks) : ∃ q, v = .ref q ∧ SqT G.K H q (ks.map V.int) := by
  cases d with
  | tup xs =>
    cases r with
    | tup hq hs =>
      have := hs.ofInts h
      subst this
      exact ⟨_, rfl, hq.sq⟩
  | _ => simp [keysI] at h
theorem tget_of {w w2 : W} {v v2 : V} {o : Option D} (R : RelS G ρ S H) (r : RelW G ex (Live ρ S) ρ H w v) (r2 : RelW G ex (Live ρ S) ρ H w2 v2) (h : tgetD w w2 S = some o) :
    ∃ a q T ks, DAsk G.K H v v2 a q T ks ∧ GotD G (Live ρ S) H o (valT T ks) := by
  unfold tgetD at h
  cases w2 with
  | d d =>
    simp only [Option.bind_eq_some_iff, Option.map_eq_some_iff] at h
    obtain ⟨ks, hk, kvs, h1, rfl⟩ := h
    obtain ⟨a, T, rfl, hH, rt⟩ := tic_of R r h1
    obtain ⟨q, rfl, hq⟩ := keyI r2.d_inv hk
    exact ⟨a, q, T, ks, ⟨rfl, rfl, hH, rt.keys, hq⟩, rt.look⟩
  | _ => simp at h
theorem e_tix (S : Sd G Wx C k X) (ha : PE X a (RE G ex Wx C ia)) (hb : PE X b (RE G ex Wx C ib)) (hs : NoSl b := by exact fun _ _ => rfl) : PE X (.Subscript a b pos) (RE G ex Wx C (.tix ia ib)) :=
  (pe_dgetI (by have := S.un; omega) ha hb hs).of fun σ H Q ⟨ρ, η, St, R, h0⟩ => rd1 (f := fun x S1 => ((evalP C ib).1 η S1).bind fun y S2 => match tgetD x y S2 with
    | some (some z) => .ok (W.d z) S2
    | _ => .stk) R h0 fun w v ρ1 S1 H1 R1 e1 r1 h1 => rd1 R1 h1 fun w2 v2 ρ2 S2 H2 R2 e2 r2 h2 => by
      split at h2
      · next z hz =>
        obtain ⟨a, q, T, ks, g, u, hu, ru⟩ := tget_of R2.st (r1.mono e2.kp e2.pre) r2 hz
        exact ⟨a, q, T, ks, u, by rw [S.hK]; exact g, hu, h2.now R2.st _ (.d ru)⟩
      · exact h2.elim
theorem e_tin (S : Sd G Wx C k X) (hb : PE X b (RE G ex Wx C ib)) (ha : PE X a (RE G ex Wx C ia)) (hm : behindInMarks .In a = false := by with_unfolding_all rfl) : PE X (.Compare b [.In] [a] pos) (RE G ex Wx C (.tin false ib ia)) :=
  (pe_cmp (pc_dinI (by have := S.un; omega) hb ha) hm).of fun σ H Q ⟨ρ, η, St, R, h0⟩ => rd1 (f := fun y S1 => ((evalP C ia).1 η S1).bind fun x S2 => match tgetD x y S2 with
    | some o => .ok (W.d (.bl (if false then !o.isSome else o.isSome))) S2
    | none => .stk) R h0 fun w v ρ1 S1 H1 R1 e1 r1 h1 => rd1 R1 h1 fun w2 v2 ρ2 S2 H2 R2 e2 r2 h2 => by
      split at h2
      · next o ho =>
        obtain ⟨a, q, T, ks, g, ru⟩ := tget_of R2.st r2 (r1.mono e2.kp e2.pre) ho
        refine ⟨a, q, T, ks, by rw [S.hK]; exact g, ?_⟩
        rw [ru.isSome]
        exact h2.now R2.st _ (.d (.bl _))
      · exact h2.elim
theorem e_tnin (S : Sd G Wx C k X) (hb : PE X b (RE G ex Wx C ib)) (ha : PE X a (RE G ex Wx C ia)) (hm : behindInMarks .NotIn a = false := by with_unfolding_all rfl) : PE X (.Compare b [.NotIn] [a] pos) (RE G ex Wx C (.tin true ib ia)) :=
  (pe_cmp (pc_dninI (by have := S.un; omega) hb ha) hm).of fun σ H Q ⟨ρ, η, St, R, h0⟩ => rd1 (f := fun y S1 => ((evalP C ia).1 η S1).bind fun x S2 => match tgetD x y S2 with
    | some o => .ok (W.d (.bl (if true then !o.isSome else o.isSome))) S2
    | none => .stk) R h0 fun w v ρ1 S1 H1 R1 e1 r1 h1 => rd1 R1 h1 fun w2 v2 ρ2 S2 H2 R2 e2 r2 h2 => by
      split at h2
      · next o ho =>
        obtain ⟨a, q, T, ks, g, ru⟩ := tget_of R2.st r2 (r1.mono e2.kp e2.pre) ho
        refine ⟨a, q, T, ks, by rw [S.hK]; exact g, ?_⟩
        rw [ru.isSome]
        exact h2.now R2.st _ (.d (.bl _))
      · exact h2.elim
theorem e_tnew : PE X (.Dict [] [] pos) (RE G ex Wx C .tnew) :=
  pe_dnewI.of fun σ H Q ⟨ρ, η, S, R, h0⟩ p hp => by
    have h1 : Sat G (fun c d H => Wx c d σ H) ρ S H (.ok (W.loc S.length) (S ++ [.dtt []])) _ := h0
    have hc : RelC G (Live (ρ.app [p]) (S ++ [.dtt []])) (ρ.app [p]) (upd H p (DTO p [])) (.dtt []) p := .dtt (upd_same ..) .nil
    refine h1 _ _ (Ext.newCell (c := .dtt []) (o := DTO p []) R.st hp) (R.st.newCell hp hc) _ (.loc ?_)
    show (ρ.l ++ [p])[S.length]? = some p
    rw [← R.st.len, List.getElem?_concat_length]
def rSetTI (G : Wd) : TSet := fun o i v H Q => ∃ ρ S wo wi w, RelS G ρ S H ∧ RelW G none (Live ρ S) ρ H wo o ∧ RelW G none (Live ρ S) ρ H wi i ∧ RelW G none (Live ρ S) ρ H w v ∧
  Sat G noX ρ S H (noExc (setTic wo wi w S)) fun _ ρ' S' H' => Q H'
theorem set_t (hK : X.K = G.K) (hu : X.A.units + 1 < cLine) : PSet X (rSetTI G) := by
  intro pins s σ H o i v ov iv u Q I ro ri rv ⟨ρ, St, wo, wi, w, R, r1, r2, r3, h⟩
  cases r1 with
  | loc hl =>
    rename_i l a
    cases r2 with
    | d rk =>
      rename_i d
      unfold setTic at h
      dsimp only at h
      cases hk : keysI d with
      | none => rw [hk] at h; exact h.elim
      | some ks =>
        rw [hk] at h
        cases hc : St[l]? with
        | none => rw [hc] at h; exact h.elim
        | some c =>
          rw [hc] at h
          cases c with
          | dtt kvs =>
            dsimp only at h
            by_cases hlen : kvs.length < line
            · rw [if_pos hlen] at h
              cases w with
              | d y =>
                dsimp only at h
                cases r3 with
                | d ry =>
                  cases R.cell _ _ _ hc hl with
                  | dtt hH rks =>
                    rename_i T
                    obtain ⟨q, rfl, hq⟩ := keyI rk hk
                    obtain rfl : ov = Value.ref a := ro
                    obtain rfl : iv = Value.ref q := ri
                    have e2 := Ext.setCell (c' := .dtt (tput kvs ks y)) (o := DTO a (putTD T ks q v)) R hc rfl hl
                    refine d_setT hu I hH (by rw [hK]; exact rks.keys) (by rw [hK]; exact hq) (by rw [← rks.length]; exact hlen) rv fun s' I' => ⟨_, I', ?_⟩
                    exact h ρ _ e2 (R.setCell hc rfl hl (.dtt (upd_same ..) ((rks.put hq ry).mono e2.kp)))
              | _ => exact h.elim
            · rw [if_neg hlen] at h; exact h.elim
          | _ => exact h.elim
    | _ => exact h.elim
  | _ => exact h.elim
theorem g_tsub (S : Sd G Wx C k X) (ho : PE X o (RE G none Wx C io)) (hi : PE X e (RE G none Wx C ii))
    (ha : ∀ v, assign (.Subscript o e pos) X.env v = (do
      let ov ← holding [v] (eval o X.env)
      let iv ← holding [v, ov] (eval e X.env)
      standAt pos
      holding [v, ov, iv] (setItem ov iv v)
      release [v, ov, iv] []) := by intro _; rfl) : PG X (.Subscript o e pos) (RdG G (IT.names (.tsub io ii)) (setT C (.tsub io ii))) :=
  (pg_sub ho hi (set_t (G := G) S.hK (by have := S.un; omega)) ha).of fun v σ H Q ⟨ρ, η, St, w, R, r, h⟩ => by
    replace h : Sat G noX ρ St H (noExc (((evalP C io).1 η St).bind fun x S1 => ((evalP C ii).1 η S1).bind fun k S2 => (setTic x k w S2).bind fun _ S3 => .ok η S3)) _ := h
    rw [noExc_bind] at h
    refine ⟨ρ, η, St, R, (Sat.nx (W1 := noX) h.bindN).mono fun wo ρ1 S1 H1 _ _ ⟨e1, R1, h1⟩ vo ro => ?_⟩
    rw [noExc_bind] at h1
    refine ⟨ρ1, η, S1, R.mono e1 R1, (Sat.nx (W1 := noX) h1.bindN).mono fun wi ρ2 S2 H2 _ _ ⟨e2, R2, h2⟩ vi ri => ?_⟩
    rw [noExc_bind] at h2
    have R12 := (R.mono e1 R1).mono e2 R2
    exact ⟨ρ2, S2, wo, wi, w, R2, ro.mono e2.kp e2.pre, ri, (r.mono e1.kp e1.pre).mono e2.kp e2.pre, h2.bindN.mono fun _ ρ3 S3 H3 _ _ ⟨e3, R3, h3⟩ => h3.now R3 _ (R12.mono e3 R3) (SameBut.refl _ _)⟩
theorem t_tin (S : Sd G Wx C k X) (hb : PE X b (RE G ex Wx C ib)) (ha : PE X a (RE G ex Wx C ia)) (hm : behindInMarks .In a = false := by with_unfolding_all rfl) : PT X (.Compare b [.In] [a] pos) (RT G ex Wx C (.tin false ib ia)) :=
  (pt_cmp (pc_dinI (by have := S.un; omega) hb ha) hm).of fun σ H Q ⟨ρ, η, St, R, h0⟩ => by
    replace h0 : Sat G (fun c d H => Wx c d σ H) ρ St H ((((evalP C ib).1 η St).bind fun y S1 => ((evalP C ia).1 η S1).bind fun x S2 => match tgetD x y S2 with
      | some o => .ok (W.d (.bl (if false then !o.isSome else o.isSome))) S2
      | none => .stk).bind fun x S1 => ofO (truthy x S1) S1) _ := h0
    rw [Res.bind_assoc] at h0
    refine rd1 R h0 fun w v ρ1 S1 H1 R1 e1 r1 h1 => ?_
    rw [Res.bind_assoc] at h1
    refine rd1 R1 h1 fun w2 v2 ρ2 S2 H2 R2 e2 r2 h2 => ?_
    cases ho : tgetD w2 w S2 with
    | none => rw [ho] at h2; exact h2.elim
    | some o =>
      rw [ho] at h2
      obtain ⟨a, q, T, ks, g, ru⟩ := tget_of R2.st r2 (r1.mono e2.kp e2.pre) ho
      refine ⟨a, q, T, ks, by rw [S.hK]; exact g, _, rfl, ?_⟩
      rw [ru.isSome]
      exact Sat.now (a := o.isSome) R2.st h2
theorem t_tnin (S : Sd G Wx C k X) (hb : PE X b (RE G ex Wx C ib)) (ha : PE X a (RE G ex Wx C ia)) (hm : behindInMarks .NotIn a = false := by with_unfolding_all rfl) : PT X (.Compare b [.NotIn] [a] pos) (RT G ex Wx C (.tin true ib ia)) :=
  (pt_cmp (pc_dninI (by have := S.un; omega) hb ha) hm).of fun σ H Q ⟨ρ, η, St, R, h0⟩ => by
    replace h0 : Sat G (fun c d H => Wx c d σ H) ρ St H ((((evalP C ib).1 η St).bind fun y S1 => ((evalP C ia).1 η S1).bind fun x S2 => match tgetD x y S2 with
      | some o => .ok (W.d (.bl (if true then !o.isSome else o.isSome))) S2
      | none => .stk).bind fun x S1 => ofO (truthy x S1) S1) _ := h0
    rw [Res.bind_assoc] at h0
    refine rd1 R h0 fun w v ρ1 S1 H1 R1 e1 r1 h1 => ?_
    rw [Res.bind_assoc] at h1
    refine rd1 R1 h1 fun w2 v2 ρ2 S2 H2 R2 e2 r2 h2 => ?_
    cases ho : tgetD w2 w S2 with
    | none => rw [ho] at h2; exact h2.elim
    | some o =>
      rw [ho] at h2
      obtain ⟨a, q, T, ks, g, ru⟩ := tget_of R2.st r2 (r1.mono e2.kp e2.pre) ho
      refine ⟨a, q, T, ks, by rw [S.hK]; exact g, _, rfl, ?_⟩
      rw [ru.isSome]
      exact Sat.now (a := !o.isSome) R2.st h2
end
end RI
/-! RI38: errors that are held as values: made, asked for their field, for their class. -/
namespace RI
open PySem PySem.Spec PyProof.Rows L2
section
variable {G : Wd} {ex : Ex} {Wx : L2.WX} {C : Ctx} {k : Nat} {X : Cx} {pos p p2 p3 : Pos} {x : Str} {i : Nat} {a b c o e : Expr} {ia ib io ii ie : IE} {ies : IEs} {ρ : Rho} {S : Store} {H : Hp} {L : Addr → Prop}
/-- what is made to be raised can be held as well -/
theorem pe_mkv {t : St → Hp → XK → Prop} (he : L2.PMk X e t) : PE X e (fun σ H Q => t σ H fun cls d H' => ∀ a, H' a = none → Q (.ref a) (upd H' a (EV a cls d))) := by
  refine ⟨fun pins s σ H Q I h => thn (he pins s σ H _ I h) fun u s1 hu => ?_⟩
  obtain ⟨a, oe, vs, sI, H', cls, d, rfl, J, kp, hne, ha, hz, hd, h1, na, os, ag, r, q⟩ := hu
  exact ⟨.ref a, _, J.call' (ch := []) os (Un.laidN kp hne na) (J.hok.laidN kp na (ev_ok ha hz hd)) ag (fun b z => absurd z (by simp)), rfl, q a na⟩
theorem e_mkx0 {cd : ClD} (S : Sd G Wx C k X) (hg : Gl X x) (h1 : C.P.cls[i]? = some cd) (hn : cd.name = x) (hx : cd.exc = some []) (hdb : (x == ("__debug__" : Str)) = false := by decide) :
    PE X (.Call (.Name x p) [] [] pos) (RE G ex Wx C (.mkx i .nil)) := by
  subst hn
  have T := S.exf i cd [] h1 hx
  have hex : G.exc i = true := by rw [S.hex]; unfold excC; rw [h1]; simp [hx]
  refine (pe_mkv (pmk_own0 PySem.F.excBase_ValueError (T.own rfl) (S.cmg i cd h1) T.kC (raises_own T.cl.hs T.tyC) hg hdb)).of fun σ H Q ⟨ρ, η, St, R, h⟩ => ?_
  replace h : Sat G (fun c d H => Wx c d σ H) ρ St H (match C.P.cls[i]? with
    | some k => match k.exc with
      | some fs => match fieldsOf fs [] with
        | some ds => .ok (W.d (.obj i ds)) St
        | none => .stk
      | none => .stk
    | none => .stk) _ := h
  rw [h1] at h
  dsimp only at h
  rw [hx] at h
  dsimp only [fieldsOf] at h
  intro a ha
  exact (h.from (Ext.newObj (o := EV a (.ref (G.ca i)) none) ha)).now (R.st.newObj ha) _ (.d (.err (vs := []) hex upd_same (R.st.fresh ha) (fun dd z => nomatch z) (fun _ => rfl) .nil))
theorem e_mkx1 {cd : ClD} {f : Nat} (S : Sd G Wx C k X) (hcm : X.calm = true) (hk : 1 ≤ k) (hg : Gl X x) (h1 : C.P.cls[i]? = some cd) (hn : cd.name = x) (hx : cd.exc = some [f]) (ha : PA X [e] (REs G ex Wx C ies)) (hl : ies.len = 1 := by rfl) (hdb : (x == ("__debug__" : Str)) = false := by decide)
    (he : starEach [e] X.env = (false, eval e X.env) :: starEach [] X.env := by rfl) (hpl : (backTo pos (starEach [] X.env)).any (·.1) = false := by rfl) :
    PE X (.Call (.Name x p) [e] [] pos) (RE G ex Wx C (.mkx i ies)) := by
  subst hn
  have T := S.exf i cd [f] h1 hx
  have hex : G.exc i = true := by rw [S.hex]; unfold excC; rw [h1]; simp [hx]
  obtain ⟨O, fI, fdat, ps, iC, tI, F, hb⟩ := T.ini f rfl
  refine (pe_mkv (pmk_oex O iC tI F ((S.room hcm).mono (by omega)) hb .nil (fun _ _ _ _ _ _ _ h => h.elim) hg (S.cmg i cd h1) ha hdb he hpl)).of fun σ H Q ⟨ρ, η, St, R, h⟩ => ?_
  refine rd1n (f := fun ws S1 => match C.P.cls[i]? with
    | some k => match k.exc with
      | some fs => match fieldsOf fs ws with
        | some ds => .ok (W.d (.obj i ds)) S1
        | none => .stk
      | none => .stk
    | none => .stk) R h fun ws vs ρ1 S1 H1 R1 e1 r1 l1 h2 => ?_
  rw [h1] at h2
  dsimp only at h2
  rw [hx] at h2
  dsimp only at h2
  split at h2
  · next ds hf =>
    obtain ⟨d, rfl, rfl⟩ := fieldsOf_one hf
    obtain ⟨v, rfl, rv⟩ := r1.one
    refine ⟨by simp, fun a hna => ⟨a, v, rfl, upd_same .., fun dx hdx hne => ⟨rfl, dx, [(G.nm f, v)], upd_same .., ?_, ?_, ?_⟩⟩⟩
    · rw [upd_ne hne]; exact upd_same ..
    · rw [← hdx, upd_ne hne]
    · have hnx : H1 dx = none := by rw [← hdx, upd_ne hne]
      have eq : upd (del (upd (upd (upd H1 a (exo a (G.ca i) none)) dx (exd dx [(G.nm f, v)])) a (exo a (G.ca i) (some dx))) a) dx (.xd [(G.nm f, v)]) = upd H1 dx (.xd [(G.nm f, v)]) := by
        funext b
        by_cases hb : b = dx
        · subst hb; rw [upd_same, upd_same]
        · rw [upd_ne hb, upd_ne hb]
          by_cases ha : b = a
          · subst ha; rw [del_same, hna]
          · rw [del_ne ha, upd_ne ha, upd_ne hb, upd_ne ha]
      rw [eq]
      intro a' ha'
      have ea := Ext.newObj (ρ := ρ1) (S := S1) (H := H1) (o := HO.xd [(G.nm f, v)]) hnx
      have Ra := R1.st.newObj (o := HO.xd [(G.nm f, v)]) hnx
      have eb := Ext.newObj (ρ := ρ1) (S := S1) (o := EV a' (.ref (G.ca i)) (some dx)) ha'
      have hne2 : dx ≠ a' := fun z => by rw [← z, upd_same] at ha'; cases ha'
      have hlx : ¬ Live ρ1 S1 dx := R1.st.fresh hnx
      exact (h2.from (ea.trans eb)).now (Ra.newObj ha') _ (.d (.err (d := some dx) (vs := [(G.nm f, v)]) hex upd_same (Ra.fresh ha') (fun dd z => by
        cases z
        exact ⟨by rw [upd_ne hne2]; exact upd_same .., hlx⟩) (fun z => nomatch z) (.cons (rv.d_inv.mono (ea.trans eb).kp) .nil)))
  · exact h2.elim
/-! ### a held error's field -/
theorem exv_at {pins : List (Addr × Obj)} {σ : L2.St} {s : Shared} {a Da : Addr} {d : Option Addr} (I : L2.Inv X pins σ H s) (h : H a = some (EV a (.ref Da) d)) (hd : ∀ dd, d = some dd → ∃ vs, H dd = some (.xd vs)) :
    ∃ oe, (d = none ∧ PySem.W.InstAt s.heap a oe Da none) ∨ ∃ dd vs od, d = some dd ∧ H dd = some (.xd vs) ∧ s.heap.get? dd = some od ∧ PySem.W.InstAt s.heap a oe Da (some od) := by
  obtain ⟨⟨oe, hget, ⟨z1, z2⟩, vs, hdat⟩, _⟩ := (show ObjOk X.prog X.w H s.heap a (EV a (.ref Da) d) from I.hok a _ h)
  have hno : PySem.W.notCls oe = true := by unfold PySem.W.notCls; rw [hdat]
  refine ⟨oe, ?_⟩
  cases d with
  | none => exact .inl ⟨rfl, hget, z1, hno, by rw [z2]; trivial⟩
  | some dd =>
    obtain ⟨vs, hx⟩ := hd dd rfl
    have ho : ObjOk X.prog X.w H s.heap dd (.xd vs) := I.hok dd _ hx
    obtain ⟨mA, hns, hr⟩ := ho
    obtain ⟨od, es', ep', hod, _⟩ := hns
    exact .inr ⟨dd, vs, od, rfl, hx, hod, hget, z1, hno, by rw [z2]; exact hod⟩
def tEv (K : PySem.W.Frag) (n : Str) (te : TE) : TE := fun σ H Q => te σ H fun x H1 => ∃ (a Da dd : Addr) (vs : List (Str × V)) (v : V), x = .ref a ∧ H1 a = some (EV a (.ref Da) (some dd)) ∧ ExcC K Da ∧ PySem.W.findIn K (.ref Da) n = some none ∧ H1 dd = some (.xd vs) ∧ vs.lookup n = some v ∧ Q v H1
theorem pe_ev {n : Str} {te : TE} (he : PE X e te) (hb : attributeBase e n X.env (eval e X.env) = eval e X.env := by rfl) : PE X (.Attribute e n pos) (tEv X.K n te) := by
  refine ⟨fun pins s σ H Q I h => attr_of hb (thn (he.run pins s σ H _ I h) fun u s1 hh => ?_)⟩
  obtain ⟨x, H1, I1, rx, a, Da, dd, vs, v, ex, ha, Ce, hno, hx, hl, q⟩ := hh
  subst ex
  obtain rfl : u = Value.ref a := rx
  have hx2 : ObjOk X.prog X.w H1 s1.heap dd (.xd vs) := I1.hok dd _ hx
  obtain ⟨mA, hns, hr⟩ := hx2
  obtain ⟨od, ho, hlk⟩ := lookIn_ns hns
  obtain ⟨⟨oe, hget, ⟨z1, z2⟩, fs, hdat⟩, _⟩ := (show ObjOk X.prog X.w H1 s1.heap a (EV a (.ref Da) (some dd)) from I1.hok a _ ha)
  have J : PySem.W.InstAt s1.heap a oe Da (some od) := ⟨hget, z1, by unfold PySem.W.notCls; rw [hdat], by rw [z2]; exact ho⟩
  obtain ⟨u, hu, ru⟩ := RelO.some_of (v := v) (o := mA n) (by have := hr n; rw [hl] at this; exact this)
  exact HandSPX.exc_get I1.kIn J Ce.hg Ce.hk Ce.hs (PySem.W.findObj_own Ce.hd hno rfl (by rw [hlk, hu])) (handed_of ru) ⟨v, H1, I1.tok _, ru, q⟩
theorem err_inv {c : Nat} {fs : List (Nat × D)} {v : V} (hx : G.exc c = true) (r : RelD G L H (.obj c fs) v) :
    ∃ (a : Addr) (d : Option Addr) (vs : List (Str × V)), v = .ref a ∧ H a = some (EV a (.ref (G.ca c)) d) ∧ (∀ dd, d = some dd → H dd = some (.xd vs)) ∧ (d = none → vs = []) ∧ RelFs G L H fs vs := by
  cases r with
  | obj h0 _ _ _ => rw [hx] at h0; cases h0
  | err h1 h2 h3 h4 h5 h6 => exact ⟨_, _, _, rfl, h2, fun dd e => (h4 dd e).1, h5, h6⟩
theorem e_fle {f : Nat} {n : Str} {ns : List Str} (S : Sd G Wx C k X) (hfl : C.P.flds.contains f = true) (hnm : G.nm = nmOf ns) (hn : nmOf ns f = n) (he : PE X e (RE G ex Wx C ie)) (hb : attributeBase e n X.env (eval e X.env) = eval e X.env := by rfl) :
    PE X (.Attribute e n pos) (RE G ex Wx C (.fle ie f)) := by
  subst hn
  rw [← hnm]
  refine (pe_ev he (by rw [hnm]; exact hb)).of fun σ H Q ⟨ρ, η, St, R, h0⟩ => ?_
  refine rd1 (f := fun x S1 => match x with
    | .d (.obj c fs) => if excC C.P c = true then (ofO (lookN f fs) S1).bind fun z S2 => .ok (W.d z) S2 else .stk
    | _ => .stk) R h0 fun w v ρ1 S1 H1 R1 e1 r1 h3 => ?_
  split at h3
  · next c fs =>
    split at h3
    · next hcc =>
      obtain ⟨z, ez, h4⟩ := h3.ofO_bind
      obtain ⟨a, d, vs, rfl, hH, hd, h0', rf⟩ := err_inv (by rw [S.hex]; exact hcc) r1.d_inv
      obtain ⟨cd', fs', e1', e2'⟩ := cls_of hcc
      have T := S.exf c cd' fs' e1' e2'
      obtain ⟨v, ev, rv⟩ := rf.look S.nmI ez
      cases d with
      | none =>
        rw [h0' rfl] at ev
        cases ev
      | some dd => exact ⟨a, G.ca c, dd, vs, v, rfl, hH, T.cl, T.nof f hfl, hd dd rfl, ev, h4.now R1.st _ (.d rv)⟩
    · exact h3.elim
  · exact h3.elim
/-! ### a held error's class -/
def rIsE (K : PySem.W.Frag) : List V → Hp → VK → Prop := fun xs H Q => ∃ (a Da : Addr) (d : Option Addr) (c : V) (cv : Value) (b : Bool), ExcC K Da ∧ xs = [.ref a, c] ∧ ClsV c cv ∧ H a = some (EV a (.ref Da) d) ∧ (∀ dd, d = some dd → ∃ vs, H dd = some (.xd vs)) ∧ PySem.W.kitOne K (.ref Da) cv = some b ∧ Q (.bl b) H
theorem call_isE : CallR X (.builtin "isinstance") (rIsE X.K) := by
  rintro pins s σ H xs us Q I r ⟨a, Da, d, c, cv, b, Ce, rfl, hcv, ha, hd, e, q⟩
  obtain ⟨u1, u2, rfl, r1, r2⟩ := vals2 r
  have e2 := hcv.eq r2
  subst e2
  cases r1
  have fin : ∀ tk, EP X pins σ Q (.bool b) { s with toks := tk } := fun tk => ⟨.bl b, H, I.tok tk, rfl, q⟩
  obtain ⟨oe, h⟩ := exv_at I ha hd
  rcases h with ⟨rfl, J⟩ | ⟨dd, vs, od, rfl, _, _, J⟩
  · exact PySem.W.kia_one (PySem.W.kitx_exc (od := none) (ox := oe) (clsIn_some Ce.hd) Ce.hg Ce.hk Ce.hs Ce.ha Ce.hn Ce.ht Ce.hm) I.kIn J e (fun z => nomatch z) fin
  · exact PySem.W.kia_one (PySem.W.kitx_exc (od := some od) (ox := oe) (clsIn_some Ce.hd) Ce.hg Ce.hk Ce.hs Ce.ha Ce.hn Ce.ht Ce.hm) I.kIn J e (fun z => nomatch z) fin
theorem e_ise {t : Ty} (S : Sd G Wx C k X) (hg : Gl X "isinstance") (he : PE X e (RE G ex Wx C ie)) (ht : TyE G X c t) (hok : tyX C.P t = true := by rfl)
    (h1 : starEach [e, c] X.env = (false, eval e X.env) :: starEach [c] X.env := by rfl) (h2 : starEach [c] X.env = (false, eval c X.env) :: starEach [] X.env := by rfl) (hpl : (backTo pos (starEach [c] X.env)).any (·.1) = false := by rfl) :
    PE X (.Call (.Name "isinstance" p) [e, c] [] pos) (RE G ex Wx C (.ise ie t)) := by
  obtain ⟨v, hv, hc⟩ := ht
  refine (pe_callB call_isE hg (S.bmg _ (by decide)) (by rfl) (pa_cons he (pa_cons hc pa_nil h2) h1) (by decide) (by decide) h1 hpl).of fun σ H Q ⟨ρ, η, St, R, h0⟩ => ?_
  refine rd1 (f := fun x S1 => match x with
    | .d (.obj c _) => if excC C.P c = true then .ok (W.d (.bl (tyIs C.P (.cls c) t))) S1 else .stk
    | _ => .stk) R h0 fun w v1 ρ1 S1 H1 R1 e1 r1 h3 => ?_
  split at h3
  · next c2 fs =>
    split at h3
    · next hcc =>
      obtain ⟨a, d, vs, rfl, hH, hd, h0', rf⟩ := err_inv (by rw [S.hex]; exact hcc) r1.d_inv
      obtain ⟨cd', fs', e1', e2'⟩ := cls_of hcc
      have T := S.exf c2 cd' fs' e1' e2'
      exact ⟨a, G.ca c2, d, v, tyVal G t, tyIs C.P (.cls c2) t, by rw [S.hK] at *; exact T.cl, rfl, hv, hH, fun dd e => ⟨vs, hd dd e⟩, T.kit t hok, h3.now R1.st _ (.d (.bl _))⟩
    · exact h3.elim
  · exact h3.elim
end
end RI
namespace Dv
open RI PySem PySem.Spec PyProof.Rows L2
theorem B0 : FnAll Ir.P Ir.names Ir.f0 d0 where
  body := fun G hnm Pm w K mg base fa cdv A outer s H E call fu k S hk hp => (s_cons (s_fld S rfl hnm rfl (q_var rfl rfl rfl) (q_var rfl rfl rfl))
  s_nil)
  sc := ⟨rfl, rfl, rfl, by decide +kernel, rfl, by decide +kernel, by decide +kernel⟩
  bd := fun _ _ _ _ _ _ us hl => match us, hl with | [_, _], _ => rfl
  dfl := ⟨rfl, rfl⟩
  le := by decide
theorem B1 : FnAll Ir.P Ir.names Ir.f1 d1 where
  body := fun G hnm Pm w K mg base fa cdv A outer s H E call fu k S hk hp => (s_cons (s_fld S rfl hnm rfl (q_var rfl rfl rfl) (q_var rfl rfl rfl))
  s_nil)
  sc := ⟨rfl, rfl, rfl, by decide +kernel, rfl, by decide +kernel, by decide +kernel⟩
  bd := fun _ _ _ _ _ _ us hl => match us, hl with | [_, _], _ => rfl
  dfl := ⟨rfl, rfl⟩
  le := by decide
theorem B2 : FnAll Ir.P Ir.names Ir.f2 d2 where
  body := fun G hnm Pm w K mg base fa cdv A outer s H E call fu k S hk hp => (s_cons (s_fld S rfl hnm rfl (q_var rfl rfl rfl) (q_var rfl rfl rfl))
  s_nil)
  sc := ⟨rfl, rfl, rfl, by decide +kernel, rfl, by decide +kernel, by decide +kernel⟩
  bd := fun _ _ _ _ _ _ us hl => match us, hl with | [_, _], _ => rfl
  dfl := ⟨rfl, rfl⟩
  le := by decide
theorem B3 : FnAll Ir.P Ir.names Ir.f3 d3 where
  body := fun G hnm Pm w K mg base fa cdv A outer s H E call fu k S hk hp => (s_cons (s_fld S rfl hnm rfl (q_var rfl rfl rfl) (q_var rfl rfl rfl))
  s_nil)
  sc := ⟨rfl, rfl, rfl, by decide +kernel, rfl, by decide +kernel, by decide +kernel⟩
  bd := fun _ _ _ _ _ _ us hl => match us, hl with | [_, _], _ => rfl
  dfl := ⟨rfl, rfl⟩
  le := by decide
theorem B4 : FnAll Ir.P Ir.names Ir.f4 d4 where
  body := fun G hnm Pm w K mg base fa cdv A outer s H E call fu k S hk hp => (s_cons (s_fld S rfl hnm rfl (q_var rfl rfl rfl) (q_var rfl rfl rfl))
  s_nil)
  sc := ⟨rfl, rfl, rfl, by decide +kernel, rfl, by decide +kernel, by decide +kernel⟩
  bd := fun _ _ _ _ _ _ us hl => match us, hl with | [_, _], _ => rfl
  dfl := ⟨rfl, rfl⟩
  le := by decide
theorem B5 : FnAll Ir.P Ir.names Ir.f5 d5 where
  body := fun G hnm Pm w K mg base fa cdv A outer s H E call fu k S hk hp => (s_cons (s_fld S rfl hnm rfl (q_var rfl rfl rfl) (q_var rfl rfl rfl))
  s_nil)
  sc := ⟨rfl, rfl, rfl, by decide +kernel, rfl, by decide +kernel, by decide +kernel⟩
  bd := fun _ _ _ _ _ _ us hl => match us, hl with | [_, _], _ => rfl
  dfl := ⟨rfl, rfl⟩
  le := by decide
theorem B6 : FnAll Ir.P Ir.names Ir.f6 d6 where
  body := fun G hnm Pm w K mg base fa cdv A outer s H E call fu k S hk hp => (s_cons (q_set S rfl rfl rfl (e_bin S (e_bin S (e_bin S (e_biT S rfl rfl (ha := (es_cons (e_biB S rfl rfl (ha := (es_cons (e_sl S (q_var rfl rfl rfl) o_none (o_some e_int)) es_nil))) es_nil))) e_int) (e_biB S rfl rfl (ha := (es_cons (q_var rfl rfl rfl) es_nil)))) e_int) rfl)
  (s_cons (s_for S rfl hp (i_seq S (e_sl S (q_var rfl rfl rfl) o_none (o_some e_int))) (q_nm S rfl rfl rfl)
  (s_cons (q_set S rfl rfl rfl (e_bin S (e_biT S rfl rfl (ha := (es_cons (e_bin S (e_bin S (e_bin S (q_var rfl rfl rfl) e_int) (e_bin S (e_biT S rfl rfl (ha := (es_cons (q_var rfl rfl rfl) es_nil))) e_int)) e_int) es_nil))) e_int) rfl)
  s_nil))
  (s_cons (s_ret (e_lsw (es_cons (q_var rfl rfl rfl) (es_cons e_int (es_cons (e_lcT S rfl (blkOk_by (own := [("cell", 2)]) (by show blkC Ir.f6.N d6.scope _ _ = true; decide +kernel)) rfl (i_seq S (e_sl S (q_var rfl rfl rfl) o_none (o_some e_int))) (fun _ _ _ _ _ S => (q_nm S rfl rfl rfl)) (fun _ _ _ _ _ S => (c_one (t_cmp S (e_biB S rfl rfl (ha := (es_cons (q_var rfl rfl rfl) es_nil))) (e_bin S e_int e_int)))) (fun _ _ _ _ _ S => (e_biB S rfl rfl (ha := (es_cons (q_var rfl rfl rfl) es_nil))))) es_nil)))))
  s_nil)))
  sc := ⟨rfl, rfl, rfl, by decide +kernel, rfl, by decide +kernel, by decide +kernel⟩
  bd := fun _ _ _ _ _ _ us hl => match us, hl with | [_], _ => rfl
  dfl := ⟨rfl, rfl⟩
  le := by decide
theorem B7 : FnAll Ir.P Ir.names Ir.f7 d7 where
  body := fun G hnm Pm w K mg base fa cdv A outer s H E call fu k S hk hp => (s_cons (s_asg (e_bin S (e_ix S (q_var rfl rfl rfl) e_int) e_int) (g_sub S (q_var rfl rfl rfl) e_int))
  (s_cons (q_set S rfl rfl rfl (e_ix S (q_var rfl rfl rfl) e_int) rfl)
  (s_cons (s_if (t_cmp S (e_biB S rfl rfl (ha := (es_cons (q_var rfl rfl rfl) es_nil))) e_int)
  (s_cons (q_set S rfl rfl rfl (e_bin S (e_biT S rfl rfl (ha := (es_cons (e_ix S (q_var rfl rfl rfl) e_int) es_nil))) (q_var rfl rfl rfl)) rfl)
  (s_cons (s_asg (e_bin S (e_biT S rfl rfl (ha := (es_cons (e_ix S (q_var rfl rfl rfl) e_int) es_nil))) (q_var rfl rfl rfl)) (g_sub S (q_var rfl rfl rfl) e_int))
  (s_cons (s_if (t_eq S rfl (e_ix S (q_var rfl rfl rfl) e_int) e_int)
  (s_cons (s_expr (e_pop S (q_var rfl rfl rfl) (es_cons e_int es_nil)))
  s_nil)
  s_nil)
  (s_cons (s_ret (q_var rfl rfl rfl))
  s_nil))))
  s_nil)
  (s_cons (q_set S rfl rfl rfl (e_bin S (e_biT S rfl rfl (ha := (es_cons (e_bin S (e_bin S (e_ix S (q_var rfl rfl rfl) e_int) (e_bin S e_int (e_ix S (q_var rfl rfl rfl) e_int))) e_int) es_nil))) e_int) rfl)
  (s_cons (q_set S rfl rfl rfl (e_bin S (e_biT S rfl rfl (ha := (es_cons (e_bin S (q_var rfl rfl rfl) (e_bin S (e_bin S (q_var rfl rfl rfl) e_int) e_int)) es_nil))) e_int) rfl)
  (s_cons (q_set S rfl rfl rfl (e_bin S (e_biT S rfl rfl (ha := (es_cons (e_bin S (q_var rfl rfl rfl) (e_bin S (e_bin S (q_var rfl rfl rfl) e_int) e_int)) es_nil))) e_int) rfl)
  (s_cons (s_ret (e_bin S (e_biT S rfl rfl (ha := (es_cons (e_bin S (q_var rfl rfl rfl) e_int) es_nil))) (q_var rfl rfl rfl)))
  s_nil)))))))
  sc := ⟨rfl, rfl, rfl, by decide +kernel, rfl, by decide +kernel, by decide +kernel⟩
  bd := fun _ _ _ _ _ _ us hl => match us, hl with | [_, _], _ => rfl
  dfl := ⟨rfl, rfl⟩
  le := by decide
theorem B8 : FnAll Ir.P Ir.names Ir.f8 d8 where
  body := fun G hnm Pm w K mg base fa cdv A outer s H E call fu k S hk hp => (s_cons (q_set S rfl rfl rfl (e_lst (es_cons e_non es_nil)) rfl)
  (s_cons (s_for S rfl hp (i_rng S rfl e_int) (q_nm S rfl rfl rfl)
  (s_cons (q_set S rfl rfl rfl (e_lst (es_cons (q_var rfl rfl rfl) es_nil)) rfl)
  s_nil))
  (s_cons (s_ret (q_var rfl rfl rfl))
  s_nil)))
  sc := ⟨rfl, rfl, rfl, by decide +kernel, rfl, by decide +kernel, by decide +kernel⟩
  bd := fun _ _ _ _ _ _ us hl => match us, hl with | [], _ => rfl
  dfl := ⟨rfl, rfl⟩
  le := by decide
theorem B9 : FnAll Ir.P Ir.names Ir.f9 d9 where
  body := fun G hnm Pm w K mg base fa cdv A outer s H E call fu k S hk hp => (s_cons (s_if (t_eq S rfl (q_var rfl rfl rfl) e_int)
  (s_cons (s_ret (e_tup (es_cons (e_fle S rfl hnm rfl (e_mkx1 S rfl hk rfl rfl rfl rfl (es_cons (q_var rfl rfl rfl) es_nil))) (es_cons (e_mkx1 S rfl hk rfl rfl rfl rfl (es_cons (q_var rfl rfl rfl) es_nil)) es_nil))))
  s_nil)
  s_nil)
  (s_cons (s_if (t_eq S rfl (q_var rfl rfl rfl) e_int)
  (s_cons (s_ret (e_tup (es_cons (e_fle S rfl hnm rfl (e_mkx1 S rfl hk rfl rfl rfl rfl (es_cons (q_var rfl rfl rfl) es_nil))) (es_cons (e_mkx1 S rfl hk rfl rfl rfl rfl (es_cons (q_var rfl rfl rfl) es_nil)) es_nil))))
  s_nil)
  s_nil)
  (s_cons (s_if (t_eq S rfl (q_var rfl rfl rfl) e_int)
  (s_cons (s_ret (e_tup (es_cons (e_fle S rfl hnm rfl (e_mkx1 S rfl hk rfl rfl rfl rfl (es_cons (q_var rfl rfl rfl) es_nil))) (es_cons (e_mkx1 S rfl hk rfl rfl rfl rfl (es_cons (q_var rfl rfl rfl) es_nil)) es_nil))))
  s_nil)
  s_nil)
  (s_cons (s_if (t_eq S rfl (q_var rfl rfl rfl) e_int)
  (s_cons (s_ret (e_tup (es_cons (e_fle S rfl hnm rfl (e_mkx1 S rfl hk rfl rfl rfl rfl (es_cons (q_var rfl rfl rfl) es_nil))) (es_cons (e_mkx1 S rfl hk rfl rfl rfl rfl (es_cons (q_var rfl rfl rfl) es_nil)) es_nil))))
  s_nil)
  s_nil)
  (s_cons (s_if (t_eq S rfl (q_var rfl rfl rfl) e_int)
  (s_cons (s_ret (e_tup (es_cons (e_fle S rfl hnm rfl (e_mkx1 S rfl hk rfl rfl rfl rfl (es_cons (q_var rfl rfl rfl) es_nil))) (es_cons (e_mkx1 S rfl hk rfl rfl rfl rfl (es_cons (q_var rfl rfl rfl) es_nil)) es_nil))))
  s_nil)
  s_nil)
  (s_cons (s_ret (e_tup (es_cons (e_fle S rfl hnm rfl (e_mkx1 S rfl hk rfl rfl rfl rfl (es_cons (q_var rfl rfl rfl) es_nil))) (es_cons (e_mkx1 S rfl hk rfl rfl rfl rfl (es_cons (q_var rfl rfl rfl) es_nil)) es_nil))))
  s_nil))))))
  sc := ⟨rfl, rfl, rfl, by decide +kernel, rfl, by decide +kernel, by decide +kernel⟩
  bd := fun _ _ _ _ _ _ us hl => match us, hl with | [_, _], _ => rfl
  dfl := ⟨rfl, rfl⟩
  le := by decide
theorem B10 : FnAll Ir.P Ir.names Ir.f10 d10 where
  body := fun G hnm Pm w K mg base fa cdv A outer s H E call fu k S hk hp => (s_cons (q_set S rfl rfl rfl (e_lst (es_cons (e_mkx0 S rfl rfl rfl rfl) (es_cons (e_mkx0 S rfl rfl rfl rfl) (es_cons (e_mkx0 S rfl rfl rfl rfl) (es_cons (e_mkx0 S rfl rfl rfl rfl) (es_cons (e_mkx0 S rfl rfl rfl rfl) (es_cons (e_mkx0 S rfl rfl rfl rfl) (es_cons (e_mkx0 S rfl rfl rfl rfl) (es_cons (e_mkx0 S rfl rfl rfl rfl) (es_cons (e_mkx0 S rfl rfl rfl rfl) es_nil)))))))))) rfl)
  (s_cons (q_set S rfl rfl rfl (e_bin S (q_var rfl rfl rfl) (e_lst (es_cons (e_mkx0 S rfl rfl rfl rfl) (es_cons (e_mkx0 S rfl rfl rfl rfl) (es_cons (e_mkx0 S rfl rfl rfl rfl) (es_cons (e_mkx0 S rfl rfl rfl rfl) (es_cons (e_mkx0 S rfl rfl rfl rfl) (es_cons (e_mkx0 S rfl rfl rfl rfl) (es_cons (e_mkx0 S rfl rfl rfl rfl) (es_cons (e_mkx0 S rfl rfl rfl rfl) es_nil)))))))))) rfl)
  (s_cons (s_ret (e_bin S (q_var rfl rfl rfl) (e_lst (es_cons (e_mkx0 S rfl rfl rfl rfl) (es_cons (e_mkx0 S rfl rfl rfl rfl) (es_cons (e_mkx0 S rfl rfl rfl rfl) (es_cons (e_mkx0 S rfl rfl rfl rfl) (es_cons (e_mkx0 S rfl rfl rfl rfl) es_nil))))))))
  s_nil)))
  sc := ⟨rfl, rfl, rfl, by decide +kernel, rfl, by decide +kernel, by decide +kernel⟩
  bd := fun _ _ _ _ _ _ us hl => match us, hl with | [], _ => rfl
  dfl := ⟨rfl, rfl⟩
  le := by decide
theorem B11 : FnAll Ir.P Ir.names Ir.f11 d11 where
  body := fun G hnm Pm w K mg base fa cdv A outer s H E call fu k S hk hp => (s_cons (q_set S rfl rfl rfl (e_lst (es_cons (e_ise S rfl (q_var rfl rfl rfl) (ty_c S rfl rfl rfl)) (es_cons (e_ise S rfl (q_var rfl rfl rfl) (ty_c S rfl rfl rfl)) (es_cons (e_ise S rfl (q_var rfl rfl rfl) (ty_c S rfl rfl rfl)) (es_cons (e_ise S rfl (q_var rfl rfl rfl) (ty_c S rfl rfl rfl)) es_nil))))) rfl)
  (s_cons (q_set S rfl rfl rfl (e_bin S (q_var rfl rfl rfl) (e_lst (es_cons (e_ise S rfl (q_var rfl rfl rfl) (ty_c S rfl rfl rfl)) (es_cons (e_ise S rfl (q_var rfl rfl rfl) (ty_c S rfl rfl rfl)) (es_cons (e_ise S rfl (q_var rfl rfl rfl) (ty_c S rfl rfl rfl)) es_nil))))) rfl)
  (s_cons (q_set S rfl rfl rfl (e_bin S (q_var rfl rfl rfl) (e_lst (es_cons (e_ise S rfl (q_var rfl rfl rfl) (ty_c S rfl rfl rfl)) (es_cons (e_ise S rfl (q_var rfl rfl rfl) (ty_c S rfl rfl rfl)) (es_cons (e_ise S rfl (q_var rfl rfl rfl) (ty_c S rfl rfl rfl)) es_nil))))) rfl)
  (s_cons (q_set S rfl rfl rfl (e_bin S (q_var rfl rfl rfl) (e_lst (es_cons (e_ise S rfl (q_var rfl rfl rfl) (ty_c S rfl rfl rfl)) (es_cons (e_ise S rfl (q_var rfl rfl rfl) (ty_c S rfl rfl rfl)) (es_cons (e_ise S rfl (q_var rfl rfl rfl) (ty_c S rfl rfl rfl)) es_nil))))) rfl)
  (s_cons (q_set S rfl rfl rfl (e_bin S (q_var rfl rfl rfl) (e_lst (es_cons (e_ise S rfl (q_var rfl rfl rfl) (ty_c S rfl rfl rfl)) (es_cons (e_ise S rfl (q_var rfl rfl rfl) (ty_c S rfl rfl rfl)) (es_cons (e_ise S rfl (q_var rfl rfl rfl) (ty_c S rfl rfl rfl)) es_nil))))) rfl)
  (s_cons (q_set S rfl rfl rfl (e_bin S (q_var rfl rfl rfl) (e_lst (es_cons (e_ise S rfl (q_var rfl rfl rfl) (ty_c S rfl rfl rfl)) (es_cons (e_ise S rfl (q_var rfl rfl rfl) (ty_c S rfl rfl rfl)) (es_cons (e_ise S rfl (q_var rfl rfl rfl) (ty_c S rfl rfl rfl)) es_nil))))) rfl)
  (s_cons (q_set S rfl rfl rfl (e_bin S (q_var rfl rfl rfl) (e_lst (es_cons (e_ise S rfl (q_var rfl rfl rfl) (ty_c S rfl rfl rfl)) (es_cons (e_ise S rfl (q_var rfl rfl rfl) (ty_c S rfl rfl rfl)) (es_cons (e_ise S rfl (q_var rfl rfl rfl) (ty_c S rfl rfl rfl)) es_nil))))) rfl)
  (s_cons (q_set S rfl rfl rfl (e_bin S (q_var rfl rfl rfl) (e_lst (es_cons (e_ise S rfl (q_var rfl rfl rfl) (ty_c S rfl rfl rfl)) (es_cons (e_ise S rfl (q_var rfl rfl rfl) (ty_c S rfl rfl rfl)) (es_cons (e_ise S rfl (q_var rfl rfl rfl) (ty_c S rfl rfl rfl)) es_nil))))) rfl)
  (s_cons (s_ret (e_bin S (q_var rfl rfl rfl) (e_lst (es_cons (e_ise S rfl (q_var rfl rfl rfl) (ty_c S rfl rfl rfl)) (es_cons (e_ise S rfl (q_var rfl rfl rfl) (ty_c S rfl rfl rfl)) (es_cons (e_ise S rfl (q_var rfl rfl rfl) (ty_c S rfl rfl rfl)) es_nil))))))
  s_nil)))))))))
  sc := ⟨rfl, rfl, rfl, by decide +kernel, rfl, by decide +kernel, by decide +kernel⟩
  bd := fun _ _ _ _ _ _ us hl => match us, hl with | [_], _ => rfl
  dfl := ⟨rfl, rfl⟩
  le := by decide
theorem B12 : FnAll Ir.P Ir.names Ir.f12 d12 where
  body := fun G hnm Pm w K mg base fa cdv A outer s H E call fu k S hk hp => (s_cons (q_set S rfl rfl rfl (e_call S rfl rfl rfl rfl rfl rfl (es_cons (q_var rfl rfl rfl) es_nil)) rfl)
  (s_cons (q_set S rfl rfl rfl (e_lst (es_cons e_non (es_cons e_int (es_cons e_bl (es_cons e_str (es_cons (e_tup es_nil) (es_cons (e_tup (es_cons e_str (es_cons e_int es_nil))) (es_cons (e_lst (es_cons e_int es_nil)) (es_cons e_dic0 (es_cons (e_call0 S rfl rfl rfl rfl rfl rfl) (es_cons (e_neg e_int) (es_cons (e_bin S e_int e_int) es_nil)))))))))))) rfl)
  (s_cons (q_set S rfl rfl rfl (e_lstT es_nil) rfl)
  (s_cons (s_for S rfl hp (i_rng S rfl e_int) (q_nm S rfl rfl rfl)
  (s_cons (q_set S rfl rfl rfl (e_ix S (q_var rfl rfl rfl) (e_call S rfl rfl rfl rfl rfl rfl (es_cons (q_var rfl rfl rfl) (es_cons e_int es_nil)))) rfl)
  (s_cons (s_asg (e_call S rfl rfl rfl rfl rfl rfl (es_cons (q_var rfl rfl rfl) (es_cons (q_var rfl rfl rfl) es_nil))) (g_tup S rfl (gs_cons (q_nm S rfl rfl rfl) (gs_cons (q_nm S rfl rfl rfl) gs_nil))))
  (s_cons (s_if (t_eq S rfl (e_rep S rfl (q_var rfl rfl rfl)) (e_rep S rfl (q_var rfl rfl rfl)))
  (s_cons (s_ret e_bl)
  s_nil)
  s_nil)
  (s_cons (s_expr (e_append S (q_var rfl rfl rfl) (es_cons (q_var rfl rfl rfl) es_nil)))
  s_nil)))))
  (s_cons (q_set S rfl rfl rfl (e_catT S (q_var rfl rfl rfl) (e_call0 S rfl rfl rfl rfl rfl rfl)) rfl)
  (s_cons (s_for S rfl hp (i_seq S (q_var rfl rfl rfl)) (q_nm S rfl rfl rfl)
  (s_cons (s_if (t_or (w_or (t_not (t_val S (e_ise S rfl (q_var rfl rfl rfl) (ty_c S rfl rfl rfl)))) (w_or (t_not (t_val S (e_ise S rfl (q_var rfl rfl rfl) (ty_b S rfl)))) (w_oneO (t_eq S rfl (e_count S (e_call S rfl rfl rfl rfl rfl rfl (es_cons (q_var rfl rfl rfl) es_nil)) (es_cons e_bl es_nil)) e_int)))))
  (s_cons (s_ret e_bl)
  s_nil)
  s_nil)
  s_nil))
  (s_cons (s_ret (e_eq S rfl (e_setlen S rfl rfl rfl (e_lc S rfl (blkOk_by (own := [("error", 5)]) (by show blkC Ir.f12.N d12.scope _ _ = true; decide +kernel)) rfl (i_seq S (q_var rfl rfl rfl)) (fun _ _ _ _ _ S => (q_nm S rfl rfl rfl)) (fun _ _ _ _ _ S => c_none) (fun _ _ _ _ _ S => (e_index S (e_call S rfl rfl rfl rfl rfl rfl (es_cons (q_var rfl rfl rfl) es_nil)) (es_cons e_bl es_nil))))) (e_biB S rfl rfl (ha := (es_cons (q_var rfl rfl rfl) es_nil)))))
  s_nil)))))))
  sc := ⟨rfl, rfl, rfl, by decide +kernel, rfl, by decide +kernel, by decide +kernel⟩
  bd := fun _ _ _ _ _ _ us hl => match us, hl with | [_], _ => rfl
  dfl := ⟨rfl, rfl⟩
  le := by decide
theorem all : AllF Ir.P Ir.names Ir.P.fns fn := .cons B0 (.cons B1 (.cons B2 (.cons B3 (.cons B4 (.cons B5 (.cons B6 (.cons B7 (.cons B8 (.cons B9 (.cons B10 (.cons B11 (.cons B12 (.nil)))))))))))))
theorem X5 : XInit Ir.P Ir.names Ir.f5 d5 4 := ⟨⟨rfl, rfl⟩, by decide, fun Pm w K mg base fa cdv A outer s H E => pss_one (ps_ost (pv 0) (pv 1))⟩
theorem X4 : XInit Ir.P Ir.names Ir.f4 d4 3 := ⟨⟨rfl, rfl⟩, by decide, fun Pm w K mg base fa cdv A outer s H E => pss_one (ps_ost (pv 0) (pv 1))⟩
theorem X3 : XInit Ir.P Ir.names Ir.f3 d3 1 := ⟨⟨rfl, rfl⟩, by decide, fun Pm w K mg base fa cdv A outer s H E => pss_one (ps_ost (pv 0) (pv 1))⟩
theorem X2 : XInit Ir.P Ir.names Ir.f2 d2 1 := ⟨⟨rfl, rfl⟩, by decide, fun Pm w K mg base fa cdv A outer s H E => pss_one (ps_ost (pv 0) (pv 1))⟩
theorem X1 : XInit Ir.P Ir.names Ir.f1 d1 2 := ⟨⟨rfl, rfl⟩, by decide, fun Pm w K mg base fa cdv A outer s H E => pss_one (ps_ost (pv 0) (pv 1))⟩
theorem X0 : XInit Ir.P Ir.names Ir.f0 d0 1 := ⟨⟨rfl, rfl⟩, by decide, fun Pm w K mg base fa cdv A outer s H E => pss_one (ps_ost (pv 0) (pv 1))⟩
theorem xi : AllXI Ir.P Ir.names fn := .plain (by intro f h; cases h) (.own rfl rfl rfl rfl X0 (.plain (by intro f h; cases h) (.plain (by intro f h; cases h) (.plain (by intro f h; cases h) (.plain (by intro f h; cases h) (.plain (by intro f h; cases h) (.plain (by intro f h; cases h) (.plain (by intro f h; cases h) (.plain (by intro f h; cases h) (.plain (by intro f h; cases h) (.plain (by intro f h; cases h) (.own rfl rfl rfl rfl X1 (.plain (by intro f h; cases h) (.own rfl rfl rfl rfl X2 (.own rfl rfl rfl rfl X3 (.plain (by intro f h; cases h) (.plain (by intro f h; cases h) (.plain (by intro f h; cases h) (.plain (by intro f h; cases h) (.plain (by intro f h; cases h) (.plain (by intro f h; cases h) (.plain (by intro f h; cases h) (.plain (by intro f h; cases h) (.plain (by intro f h; cases h) (.own rfl rfl rfl rfl X4 (.plain (by intro f h; cases h) (.own rfl rfl rfl rfl X5 (.plain (by intro f h; cases h) (.nil)))))))))))))))))))))))))))))
end Dv
open PySem PySem.W PySem.Calls PyProof.Rows in
theorem law_of (law : ∀ xs : List Int, xs.length ≤ 63 → ∃ S', RI.callF Ir.P 10000000000 40 Ir.lawId [.scr xs] [] = .ok (.d (.bl true)) S') : PySem.Challenge.rw_oncetwice_k00_errors_of_the_package.Holds := by
  w_on; o_law
  refine HandSHeadRun.head_any (r := OpenLaw.row PySem.Challenge.rw_oncetwice_k00_errors_of_the_package) (q := view (OpenLaw.row PySem.Challenge.rw_oncetwice_k00_errors_of_the_package).prog [37]) (H := Hd.hk) (ob := Hd.ob) (M := 20000) (loose := Hd.names) (d := HandSHeadRun.topDef (OpenLaw.row PySem.Challenge.rw_oncetwice_k00_errors_of_the_package).prog 37) (kwd := []) Hd.ob_eq
    (by kernel_rfl) (fun s => by kernel_rfl) Hd.run (by kernel_rfl) (by kernel_rfl) (by kernel_rfl) (by rfl) (by first | assumption | decide +kernel) (by decide +kernel) ⟨rfl, rfl, rfl, rfl, rfl, by decide +kernel⟩ ?hw ?hc
  case hw => w_witness2
  case hc =>
    refine RI.walkG (l := PySem.Challenge.rw_oncetwice_k00_errors_of_the_package) (n := 63) (k := 2 * 40 + 2) (x := "script") (cx := L2.CX0) rfl (by decide) (by kernel_rfl) ⟨rfl, by decide, by decide⟩ ?F (fun _ _ _ _ z => z)
    intro w mg fa h Y Gm hmg0
    obtain ⟨K, KX, c⟩ := Y
    have hmg : mg ("law" : PySem.Str) = some (.ref fa) := by
      have e : (HandSHeadRun.topDef (OpenLaw.row PySem.Challenge.rw_oncetwice_k00_errors_of_the_package).prog 37).name = ("law" : PySem.Str) := by kernel_rfl
      rw [← e]
      exact hmg0
    obtain ⟨fd, sp, hb, h1, hF⟩ := RI.law_facts (P := Ir.P) (ds := Dv.fn) (ns := Ir.names) (Pm := (PySem.Challenge.rw_oncetwice_k00_errors_of_the_package).prog) (w := w) (fu := 10000000000) (n := 40) (lid := Ir.lawId) (fd := Ir.f12) (ld := Dv.d12) (mg := mg) (fA := fa) (RI.hts_of KX Gm c.t (Bool.and_eq_true_iff.mp c.more).2) KX Gm Dv.all Dv.xi (by decide +kernel) rfl rfl rfl rfl rfl hmg c.t.d (Bool.and_eq_true_iff.mp (Bool.and_eq_true_iff.mp c.more).1).1 (Bool.and_eq_true_iff.mp (Bool.and_eq_true_iff.mp c.more).1).2 law
    exact ⟨K, fd, sp, KX, hb, h1, hF⟩
/-! PU: running the evaluator by simp. -/
namespace RI
/-- what stands by a thing, so that simp leaves the thing as it is -/
structure Tag {α : Type} (a : α) : Type where
/-- bind, whose way on simp leaves as it is -/
def Res.bnd {α β : Type} (r : Res α) (f : α → Store → Res β) (_u : Tag f := Tag.mk) : Res β := r.bind f
section
variable {α β : Type} {f : α → Store → Res β} {u : Tag f}
@[simp] theorem bnd_ok {a : α} {S : Store} : (Res.ok a S).bnd f u = f a S := id rfl
@[simp] theorem bnd_stk : (Res.stk : Res α).bnd f u = .stk := id rfl
@[simp] theorem bnd_exc {c : Nat} {fs : List (Nat × D)} {S : Store} : (Res.exc c fs S : Res α).bnd f u = .exc c fs S := id rfl
@[simp ↓] theorem bind_bnd {r : Res α} : r.bind f = r.bnd f := id rfl
end
section
variable {C : Ctx} {η : Env} {S : Store}
theorem mkV1 (f : Env → Store → Res W) : (mkV f).1 η S = f η S := id rfl
theorem mkV2 (f : Env → Store → Res W) : (mkV f).2 η S = (f η S).bnd fun x S1 => ofO (truthy x S1) S1 := id rfl
@[simp] theorem ev_var {i} : (evalP C (.var i)).1 η S = ofO (getV η i) S := id rfl
@[simp] theorem ev_var_t {i} : (evalP C (.var i)).2 η S = ((evalP C (.var i)).1 η S).bnd fun x S1 => ofO (truthy x S1) S1 := id rfl
@[simp] theorem ev_glob {k} : (evalP C (.glob k)).1 η S = (ofO C.P.consts[k]? S).bnd fun x S => .ok (.d x) S := id rfl
@[simp] theorem ev_glob_t {k} : (evalP C (.glob k)).2 η S = ((evalP C (.glob k)).1 η S).bnd fun x S1 => ofO (truthy x S1) S1 := id rfl
@[simp] theorem ev_fnv {f} : (evalP C (.fnv f)).1 η S = .ok (.d (.fn f)) S := id rfl
@[simp] theorem ev_fnv_t {f} : (evalP C (.fnv f)).2 η S = ((evalP C (.fnv f)).1 η S).bnd fun x S1 => ofO (truthy x S1) S1 := id rfl
@[simp] theorem ev_non  : (evalP C .non).1 η S = .ok (.d .non) S := id rfl
@[simp] theorem ev_non_t  : (evalP C .non).2 η S = ((evalP C .non).1 η S).bnd fun x S1 => ofO (truthy x S1) S1 := id rfl
@[simp] theorem ev_bl {b} : (evalP C (.bl b)).1 η S = .ok (.d (.bl b)) S := id rfl
@[simp] theorem ev_bl_t {b} : (evalP C (.bl b)).2 η S = ((evalP C (.bl b)).1 η S).bnd fun x S1 => ofO (truthy x S1) S1 := id rfl
@[simp] theorem ev_int {b} : (evalP C (.int b)).1 η S = .ok (.d (.int b)) S := id rfl
@[simp] theorem ev_int_t {b} : (evalP C (.int b)).2 η S = ((evalP C (.int b)).1 η S).bnd fun x S1 => ofO (truthy x S1) S1 := id rfl
@[simp] theorem ev_str {b} : (evalP C (.str b)).1 η S = .ok (.d (.str b)) S := id rfl
@[simp] theorem ev_str_t {b} : (evalP C (.str b)).2 η S = ((evalP C (.str b)).1 η S).bnd fun x S1 => ofO (truthy x S1) S1 := id rfl
@[simp] theorem ev_tup {es} : (evalP C (.tup es)).1 η S = (evalEs C es η S).bnd fun ws S1 => (toDs ws S1).bnd fun xs S2 => .ok (.d (.tup xs)) S2 := id rfl
@[simp] theorem ev_tup_t {es} : (evalP C (.tup es)).2 η S = ((evalP C (.tup es)).1 η S).bnd fun x S1 => ofO (truthy x S1) S1 := id rfl
@[simp] theorem ev_lst {es} : (evalP C (.lst es)).1 η S = (evalEs C es η S).bnd fun ws S1 => (toDs ws S1).bnd fun xs S2 => .ok (.d (.lst xs)) S2 := id rfl
@[simp] theorem ev_lst_t {es} : (evalP C (.lst es)).2 η S = ((evalP C (.lst es)).1 η S).bnd fun x S1 => ofO (truthy x S1) S1 := id rfl
@[simp] theorem ev_bin {o a b} : (evalP C (.bin o a b)).1 η S = ((evalP C a).1 η S).bnd fun x S1 => ((evalP C b).1 η S1).bnd fun y S2 => (ofO (binD o x y S2) S2).bnd fun z S3 => .ok (.d z) S3 := id rfl
@[simp] theorem ev_bin_t {o a b} : (evalP C (.bin o a b)).2 η S = ((evalP C (.bin o a b)).1 η S).bnd fun x S1 => ofO (truthy x S1) S1 := id rfl
@[simp] theorem ev_neg {a} : (evalP C (.neg a)).1 η S = ((evalP C a).1 η S).bnd fun x S1 => match x with
    | .d (.int i) => .ok (.d (.int (-i))) S1
    | _ => .stk := id rfl
@[simp] theorem ev_neg_t {a} : (evalP C (.neg a)).2 η S = ((evalP C (.neg a)).1 η S).bnd fun x S1 => ofO (truthy x S1) S1 := id rfl
@[simp] theorem ev_not1 {a} : (evalP C (.not a)).1 η S = ((evalP C a).1 η S).bnd fun x S1 => (ofO (truthy x S1) S1).bnd fun b S2 => .ok (.d (.bl (!b))) S2 := id rfl
@[simp] theorem ev_not2 {a} : (evalP C (.not a)).2 η S = ((evalP C a).2 η S).bnd fun b S1 => .ok (!b) S1 := id rfl
@[simp] theorem ev_cmp {o a b} : (evalP C (.cmp o a b)).1 η S = ((evalP C a).1 η S).bnd fun x S1 => ((evalP C b).1 η S1).bnd fun y S2 => cmpW C o x y S2 := id rfl
@[simp] theorem ev_cmp_t {o a b} : (evalP C (.cmp o a b)).2 η S = ((evalP C (.cmp o a b)).1 η S).bnd fun x S1 => ofO (truthy x S1) S1 := id rfl
@[simp] theorem ev_cmpd {o a b} : (evalP C (.cmpd o a b)).1 η S = ((evalP C a).1 η S).bnd fun x S1 => ((evalP C b).1 η S1).bnd fun y S2 => (ofO (cmpD o x y S2) S2).bnd fun k S3 => .ok (.d (.bl k)) S3 := id rfl
@[simp] theorem ev_cmpd_t {o a b} : (evalP C (.cmpd o a b)).2 η S = ((evalP C (.cmpd o a b)).1 η S).bnd fun x S1 => ofO (truthy x S1) S1 := id rfl
@[simp] theorem ev_chain {o o' a b c} : (evalP C (.chain o o' a b c)).1 η S = ((evalP C a).1 η S).bnd fun x S1 => ((evalP C b).1 η S1).bnd fun y S2 => (ofO (cmpD o x y S2) S2).bnd fun k S3 =>
      if k = true then ((evalP C c).1 η S3).bnd fun z S4 => (ofO (cmpD o' y z S4) S4).bnd fun k' S5 => .ok (.d (.bl k')) S5 else .ok (.d (.bl false)) S3 := id rfl
@[simp] theorem ev_chain_t {o o' a b c} : (evalP C (.chain o o' a b c)).2 η S = ((evalP C (.chain o o' a b c)).1 η S).bnd fun x S1 => ofO (truthy x S1) S1 := id rfl
@[simp] theorem ev_isn {n a} : (evalP C (.isn n a)).1 η S = ((evalP C a).1 η S).bnd fun x S1 => match x with
    | .d .non => .ok (.d (.bl (!n))) S1
    | _ => .ok (.d (.bl n)) S1 := id rfl
@[simp] theorem ev_isn_t {n a} : (evalP C (.isn n a)).2 η S = ((evalP C (.isn n a)).1 η S).bnd fun x S1 => ofO (truthy x S1) S1 := id rfl
@[simp] theorem ev_and {es} : evalP C (.and es) = evalAnd C es := id rfl
@[simp] theorem ev_or {es} : evalP C (.or es) = evalOr C es := id rfl
@[simp] theorem and_one {e} : evalAnd C (.cons e .nil) = evalP C e := id rfl
@[simp] theorem or_one {e} : evalOr C (.cons e .nil) = evalP C e := id rfl
@[simp] theorem and1 {e e2 r} : (evalAnd C (.cons e (.cons e2 r))).1 η S = ((evalP C e).1 η S).bnd fun x S1 => (ofO (truthy x S1) S1).bnd fun k S2 => if k = true then (evalAnd C (.cons e2 r)).1 η S2 else .ok x S2 := id rfl
@[simp] theorem and2 {e e2 r} : (evalAnd C (.cons e (.cons e2 r))).2 η S = ((evalP C e).2 η S).bnd fun k S1 => if k = true then (evalAnd C (.cons e2 r)).2 η S1 else .ok false S1 := id rfl
@[simp] theorem or1 {e e2 r} : (evalOr C (.cons e (.cons e2 r))).1 η S = ((evalP C e).1 η S).bnd fun x S1 => (ofO (truthy x S1) S1).bnd fun k S2 => if k = true then .ok x S2 else (evalOr C (.cons e2 r)).1 η S2 := id rfl
@[simp] theorem or2 {e e2 r} : (evalOr C (.cons e (.cons e2 r))).2 η S = ((evalP C e).2 η S).bnd fun k S1 => if k = true then .ok true S1 else (evalOr C (.cons e2 r)).2 η S1 := id rfl
@[simp] theorem ev_ifx {c a b} : (evalP C (.ifx c a b)).1 η S = ((evalP C c).2 η S).bnd fun k S1 => if k = true then (evalP C a).1 η S1 else (evalP C b).1 η S1 := id rfl
@[simp] theorem ev_ifx_t {c a b} : (evalP C (.ifx c a b)).2 η S = ((evalP C (.ifx c a b)).1 η S).bnd fun x S1 => ofO (truthy x S1) S1 := id rfl
@[simp] theorem ev_call {f es} : (evalP C (.call f es)).1 η S = (evalEs C es η S).bnd fun ws S1 => C.call f ws S1 := id rfl
@[simp] theorem ev_call_t {f es} : (evalP C (.call f es)).2 η S = ((evalP C (.call f es)).1 η S).bnd fun x S1 => ofO (truthy x S1) S1 := id rfl
@[simp] theorem ev_callv {i es} : (evalP C (.callv i es)).1 η S = (ofO (getV η i) S).bnd fun w S => match w with
    | .d (.fn f) => match C.P.fns[f]? with
      | some fd => (evalEs C es η S).bnd fun ws S1 => if ws.length = fd.np then C.call f ws S1 else .stk
      | none => .stk
    | _ => .stk := id rfl
@[simp] theorem ev_callv_t {i es} : (evalP C (.callv i es)).2 η S = ((evalP C (.callv i es)).1 η S).bnd fun x S1 => ofO (truthy x S1) S1 := id rfl
@[simp] theorem ev_callx {a es} : (evalP C (.callx a es)).1 η S = ((evalP C a).1 η S).bnd fun w S1 => match w with
    | .d (.fn f) => match C.P.fns[f]? with
      | some fd => (evalEs C es η S1).bnd fun ws S2 => if ws.length = fd.np then C.call f ws S2 else .stk
      | none => .stk
    | _ => .stk := id rfl
@[simp] theorem ev_callx_t {a es} : (evalP C (.callx a es)).2 η S = ((evalP C (.callx a es)).1 η S).bnd fun x S1 => ofO (truthy x S1) S1 := id rfl
@[simp] theorem ev_mk {c es} : (evalP C (.mk c es)).1 η S = (evalEs C es η S).bnd fun ws S1 => mkW C c ws S1 := id rfl
@[simp] theorem ev_mk_t {c es} : (evalP C (.mk c es)).2 η S = ((evalP C (.mk c es)).1 η S).bnd fun x S1 => ofO (truthy x S1) S1 := id rfl
@[simp] theorem ev_bi {b es} : (evalP C (.bi b es)).1 η S = (evalEs C es η S).bnd fun ws S1 => (ofO (biD b ws S1) S1).bnd fun x S2 => .ok (.d x) S2 := id rfl
@[simp] theorem ev_bi_t {b es} : (evalP C (.bi b es)).2 η S = ((evalP C (.bi b es)).1 η S).bnd fun x S1 => ofO (truthy x S1) S1 := id rfl
@[simp] theorem ev_bm {e m es} : (evalP C (.bm e m es)).1 η S = ((evalP C e).1 η S).bnd fun o S1 => if recvOk m o S1 = true then (evalEs C es η S1).bnd fun ws S2 => bmD m o ws S2 else .stk := id rfl
@[simp] theorem ev_bm_t {e m es} : (evalP C (.bm e m es)).2 η S = ((evalP C (.bm e m es)).1 η S).bnd fun x S1 => ofO (truthy x S1) S1 := id rfl
@[simp] theorem ev_fld {e f} : (evalP C (.fld e f)).1 η S = ((evalP C e).1 η S).bnd fun o S1 => ofO (fldD C.P o f S1) S1 := id rfl
@[simp] theorem ev_fld_t {e f} : (evalP C (.fld e f)).2 η S = ((evalP C (.fld e f)).1 η S).bnd fun x S1 => ofO (truthy x S1) S1 := id rfl
@[simp] theorem ev_ix {a b} : (evalP C (.ix a b)).1 η S = ((evalP C a).1 η S).bnd fun x S1 => ((evalP C b).1 η S1).bnd fun y S2 => ofO (ixD x y S2) S2 := id rfl
@[simp] theorem ev_ix_t {a b} : (evalP C (.ix a b)).2 η S = ((evalP C (.ix a b)).1 η S).bnd fun x S1 => ofO (truthy x S1) S1 := id rfl
@[simp] theorem ev_sl {a lo hi} : (evalP C (.sl a lo hi)).1 η S = ((evalP C a).1 η S).bnd fun x S1 => (evalO C lo η S1).bnd fun l S2 => (evalO C hi η S2).bnd fun h S3 => (ofO (slD x l h S3) S3).bnd fun z S4 => .ok (.d z) S4 := id rfl
@[simp] theorem ev_sl_t {a lo hi} : (evalP C (.sl a lo hi)).2 η S = ((evalP C (.sl a lo hi)).1 η S).bnd fun x S1 => ofO (truthy x S1) S1 := id rfl
@[simp] theorem ev_lc {e own t it ifs} : (evalP C (.lc e own t it ifs)).1 η S = noExc ((evalI C it η S).bnd fun src S1 => (lcSrc (setT C t) (evalC C ifs) (evalP C e).1 (wipeE η own) src S1).bnd fun xs S2 => .ok (.d (.lst xs)) S2) := id rfl
@[simp] theorem ev_lc_t {e own t it ifs} : (evalP C (.lc e own t it ifs)).2 η S = ((evalP C (.lc e own t it ifs)).1 η S).bnd fun x S1 => ofO (truthy x S1) S1 := id rfl
@[simp] theorem ev_isi {e ts} : (evalP C (.isi e ts)).1 η S = ((evalP C e).1 η S).bnd fun x S1 => (ofO (tyName x S1) S1).bnd fun t S2 => if isiOk C.P x t = true then .ok (.d (.bl (ts.any fun u => tyIs C.P t u))) S2 else .stk := id rfl
@[simp] theorem ev_isi_t {e ts} : (evalP C (.isi e ts)).2 η S = ((evalP C (.isi e ts)).1 η S).bnd fun x S1 => ofO (truthy x S1) S1 := id rfl
@[simp] theorem ev_thaw {e} : (evalP C (.thaw e)).1 η S = ((evalP C e).1 η S).bnd fun w S1 => thawD w S1 := id rfl
@[simp] theorem ev_thaw_t {e} : (evalP C (.thaw e)).2 η S = ((evalP C (.thaw e)).1 η S).bnd fun x S1 => ofO (truthy x S1) S1 := id rfl
@[simp] theorem ev_lsw {es} : (evalP C (.lsw es)).1 η S = (evalEs C es η S).bnd fun ws S1 => .ok (.loc S1.length) (S1 ++ [.lsw ws]) := id rfl
@[simp] theorem ev_dic0 : (evalP C .dic0).1 η S = .ok (.d (.dic [])) S := id rfl
@[simp] theorem ev_dic0_t : (evalP C .dic0).2 η S = ((evalP C .dic0).1 η S).bnd fun x S1 => ofO (truthy x S1) S1 := id rfl
@[simp] theorem ev_setop {o a} : (evalP C (.setop o a)).1 η S = ((evalP C a).1 η S).bnd fun x S1 => (ofO (setD o x S1) S1).bnd fun z S2 => .ok (.d z) S2 := id rfl
@[simp] theorem ev_rep {a} : (evalP C (.rep a)).1 η S = ((evalP C a).1 η S).bnd fun x S1 => (ofO (reprD x) S1).bnd fun z S2 => .ok (.d z) S2 := id rfl
@[simp] theorem ev_lrng {a} : (evalP C (.lrng a)).1 η S = ((evalP C a).1 η S).bnd fun w S1 => match w with
    | .d (.int n) => if -lineR ≤ n ∧ n < 16777216 then .ok (.d (.lst ((List.range n.toNat).map fun i => .int (i : Nat)))) S1 else .stk
    | _ => .stk := id rfl
@[simp] theorem ev_isx {e t} : (evalP C (.isx e t)).1 η S = ((evalP C e).1 η S).bnd fun x S1 => match x with
    | .exn c _ => if excC C.P c = true then .ok (.d (.bl (tyIs C.P (.cls c) t))) S1 else .stk
    | _ => .stk := id rfl
@[simp] theorem ev_isx_t {e t} : (evalP C (.isx e t)).2 η S = ((evalP C (.isx e t)).1 η S).bnd fun x S1 => ofO (truthy x S1) S1 := id rfl
@[simp] theorem ev_flx {e f} : (evalP C (.flx e f)).1 η S = ((evalP C e).1 η S).bnd fun x S1 => match x with
    | .exn c fs => if excC C.P c = true then (ofO (lookN f fs) S1).bnd fun z S2 => .ok (.d z) S2 else .stk
    | _ => .stk := id rfl
@[simp] theorem es_nil' : evalEs C .nil η S = .ok [] S := id rfl
@[simp] theorem es_cons' {e es} : evalEs C (.cons e es) η S = ((evalP C e).1 η S).bnd fun w S1 => (evalEs C es η S1).bnd fun ws S2 => .ok (w :: ws) S2 := id rfl
@[simp] theorem eo_no : evalO C .no η S = .ok none S := id rfl
@[simp] theorem eo_yes {e} : evalO C (.yes e) η S = ((evalP C e).1 η S).bnd fun w S1 => match w with
    | .d (.int i) => .ok (some i) S1
    | _ => .stk := id rfl
theorem ec_no : evalC C .no = fun _ S => .ok true S := id rfl
theorem ec_yes {e} : evalC C (.yes e) = (evalP C e).2 := id rfl
@[simp] theorem ss_nil' : execSs C .nil η S = .ok (.nx η) S := id rfl
def seqF (f : Flow) (S : Store) (k : Env → Store → Res Flow) : Res Flow := match f with
  | .nx η => k η S
  | f => .ok f S
@[simp] theorem seqF_nx {k : Env → Store → Res Flow} : seqF (.nx η) S k = k η S := id rfl
@[simp] theorem seqF_ret {w : W} {k : Env → Store → Res Flow} : seqF (.ret w) S k = .ok (.ret w) S := id rfl
@[simp] theorem seqF_brk {k : Env → Store → Res Flow} : seqF (.brk η) S k = .ok (.brk η) S := id rfl
@[simp] theorem seqF_cont {k : Env → Store → Res Flow} : seqF (.cont η) S k = .ok (.cont η) S := id rfl
@[simp] theorem ss_cons' {s ss} : execSs C (.cons s ss) η S = (execS C s η S).bnd fun f S1 => seqF f S1 (execSs C ss) := by
  show ((execS C s η S).bnd fun f S1 => match f with
    | .nx η1 => execSs C ss η1 S1
    | f => .ok f S1) = _
  rfl
@[simp] theorem x_expr {e} : execS C (.expr e) η S = ((evalP C e).1 η S).bnd fun _ S1 => .ok (.nx η) S1 := id rfl
@[simp] theorem x_ret {e} : execS C (.ret e) η S = ((evalP C e).1 η S).bnd fun w S1 => .ok (.ret w) S1 := id rfl
@[simp] theorem x_asg {t e} : execS C (.asg t e) η S = ((evalP C e).1 η S).bnd fun w S1 => (noExc (setT C t w η S1)).bnd fun η1 S2 => .ok (.nx η1) S2 := id rfl
@[simp] theorem x_par {is es} : execS C (.par is es) η S = (evalEs C es η S).bnd fun ws S1 => (ofO (setNs is ws η) S1).bnd fun η1 S2 => .ok (.nx η1) S2 := id rfl
@[simp] theorem x_ife {c a b} : execS C (.ife c a b) η S = ((evalP C c).2 η S).bnd fun k S1 => if k = true then execSs C a η S1 else execSs C b η S1 := id rfl
@[simp] theorem x_for {t it b} : execS C (.for_ t it b) η S = (evalI C it η S).bnd fun src S1 => forSrc (setT C t) (execSs C b) src η S1 := id rfl
@[simp] theorem x_whl {c b} : execS C (.whl c b) η S = whileL (evalP C c).2 (execSs C b) C.fu η S := id rfl
theorem x_raise {c es} : execS C (.raise c es) η S = (evalEs C es η S).bnd fun ws S1 => match C.P.cls[c]? with
    | some k => match k.exc with
      | some fs => match fieldsOf fs ws with
        | some ds => .exc c ds S1
        | none => .stk
      | none => .stk
    | none => .stk := id rfl
theorem x_try {body c i suite} : execS C (.tryx body c i suite) η S = match execB C body η S with
    | .exc c' fs S1 => if excC C.P c' = true ∧ i < η.length then (if tyIs C.P (.cls c') (.cls c) = true then
        (noExc (execSs C suite (η.set i (some (.exn c' fs))) S1)).bnd fun f S2 => match f with
          | .nx η1 => if noExn (η1.set i none) = true then .ok (.nx (η1.set i none)) S2 else .stk
          | _ => .stk
      else .exc c' fs S1) else .stk
    | r => r := id rfl
theorem x_one {s rest} : execB C (.one s rest) η S = (execS C s η S).bnd fun f S1 => match f with
    | .nx η1 => noExc (execSs C rest η1 S1)
    | f => .ok f S1 := id rfl
@[simp] theorem x_pass : execS C .pass η S = .ok (.nx η) S := id rfl
@[simp] theorem x_cont : execS C .cont η S = .ok (.cont η) S := id rfl
@[simp] theorem x_brk : execS C .brk η S = .ok (.brk η) S := id rfl
@[simp] theorem x_retN : execS C .retN η S = .ok (.ret (.d .non)) S := id rfl
@[simp] theorem i_seq' {e} : evalI C (.seq e) η S = ((evalP C e).1 η S).bnd fun w S1 => match w with
    | .loc l => match S1[l]? with
      | some (.lst ys) => .ok (.loc l ys.length) S1
      | _ => .stk
    | .d (.str s) => .ok (.fix (s.map fun c => .str [c])) S1
    | w => match seqOf w S1 with
      | some (_, xs) => .ok (.fix xs) S1
      | none => .stk := id rfl
@[simp] theorem i_enum' {e} : evalI C (.enum e) η S = ((evalP C e).1 η S).bnd fun w S1 => match w with
    | .loc _ => .stk
    | w => match seqOf w S1 with
      | some (_, xs) => .ok (.fix (xs.mapIdx fun i x => .tup [.int (i : Nat), x])) S1
      | none => .stk := id rfl
@[simp] theorem i_zip' {a b} : evalI C (.zip a b) η S = ((evalP C a).1 η S).bnd fun w S1 => ((evalP C b).1 η S1).bnd fun u S2 => match w, u with
    | .d x, .d y => match seqOf (.d x) S2, seqOf (.d y) S2 with
      | some (_, xs), some (_, ys) => .ok (.fix ((xs.zip ys).map fun p => .tup [p.1, p.2])) S2
      | _, _ => .stk
    | _, _ => .stk := id rfl
@[simp] theorem i_rng' {a} : evalI C (.rng a) η S = ((evalP C a).1 η S).bnd fun w S1 => match w with
    | .d (.int n) => if -lineR ≤ n ∧ n < lineR then .ok (.fix ((List.range n.toNat).map fun i => .int (i : Nat))) S1 else .stk
    | _ => .stk := id rfl
@[simp] theorem st_nm {i w} : setT C (.nm i) w η S = if i < η.length then .ok (η.set i (some w)) S else .stk := id rfl
@[simp] theorem st_tup {ts w} : setT C (.tup ts) w η S = match seqOf w S with
    | some (.tup, xs) => setTs C ts xs η S
    | _ => .stk := id rfl
@[simp] theorem sts_nil : setTs C .nil [] η S = .ok η S := id rfl
@[simp] theorem sts_cons {t ts x xs} : setTs C (.cons t ts) (x :: xs) η S = (setT C t (.d x) η S).bnd fun η1 S1 => setTs C ts xs η1 S1 := id rfl
@[simp] theorem st_sub {o i w} : setT C (.sub o i) w η S = ((evalP C o).1 η S).bnd fun x S1 => ((evalP C i).1 η S1).bnd fun k S2 => (setSub x k w S2).bnd fun _ S3 => .ok η S3 := id rfl
@[simp] theorem st_fld {o f w} : setT C (.fld o f) w η S = ((evalP C o).1 η S).bnd fun x S1 => (setFld C.P x f w S1).bnd fun _ S2 => .ok η S2 := id rfl
end
end RI
/-! PT: runs that end well. -/
namespace RI
def TotD {α : Type} (r : Res α) (Q : α → Store → Prop) : Prop := match r with
  | .ok a S => Q a S
  | _ => False
/-- the run ends well, and so -/
structure Tot {α : Type} (r : Res α) (Q : α → Store → Prop) (_u : Tag Q := Tag.mk) : Prop where
  h : TotD r Q
section
variable {α β : Type} {r : Res α} {f : α → Store → Res β} {P Q : α → Store → Prop} {R : β → Store → Prop} {S : Store}
@[simp] theorem Tot_ok {a : α} : Tot (.ok a S) Q = Q a S := propext ⟨fun h => h.h, fun h => ⟨h⟩⟩
@[simp] theorem Tot_stk : Tot (.stk : Res α) Q = False := propext ⟨fun h => h.h, False.elim⟩
@[simp] theorem Tot_exc {c : Nat} {fs : List (Nat × D)} : Tot (.exc c fs S : Res α) Q = False := propext ⟨fun h => h.h, False.elim⟩
@[simp] theorem Tot_noExc_bind : Tot ((noExc r).bnd f) R = Tot (r.bnd f) R := by
  cases r with
  | exc c fs S => exact propext ⟨fun h => h.h.elim, fun h => h.h.elim⟩
  | _ => rfl
@[simp] theorem Tot_noExc : Tot (noExc r) Q = Tot r Q := by
  cases r with
  | exc c fs S => exact propext ⟨fun h => h.h.elim, fun h => h.h.elim⟩
  | _ => rfl
@[simp] theorem bind_assoc' {γ : Type} {g : β → Store → Res γ} : (r.bnd f).bnd g = r.bnd fun a S => (f a S).bnd g := by cases r <;> rfl
@[simp] theorem ite_bind {c : Prop} [Decidable c] {a b : Res α} : (if c then a else b).bnd f = if c then a.bnd f else b.bnd f := by split <;> rfl
@[simp] theorem Tot_ite {c : Prop} [Decidable c] {a b : Res α} : Tot (if c then a else b) Q = if c then Tot a Q else Tot b Q := by split <;> rfl
theorem Tot.seq (h : Tot r P) (k : ∀ a S, P a S → Tot (f a S) R) : Tot (r.bnd f) R := by
  cases r with
  | ok a S => exact k a S h.h
  | exc _ _ _ => exact h.h.elim
  | stk => exact h.h.elim
theorem Tot.mono (h : Tot r P) (k : ∀ a S, P a S → Q a S) : Tot r Q := by
  cases r with
  | ok a S => exact ⟨k a S h.h⟩
  | exc _ _ _ => exact h.h.elim
  | stk => exact h.h.elim
theorem Tot.ex (h : Tot r P) : ∃ a S, r = .ok a S ∧ P a S := by
  cases r with
  | ok a S => exact ⟨a, S, rfl, h.h⟩
  | exc _ _ _ => exact h.h.elim
  | stk => exact h.h.elim
theorem Tot.of_eq {a : α} (h : r = .ok a S) (q : Q a S) : Tot r Q := by rw [h]; exact ⟨q⟩
end
/-! ### what operations tell -/
section
variable {C : Ctx} {S : Store} {i j : Int} {xs ys : List D} {b : Bool} {s t : List Nat} {l : Nat} {x y : D} {c : Nat} {fs : List (Nat × D)}
@[simp] theorem tr_bl : truthy (.d (.bl b)) S = some b := id rfl
@[simp] theorem tr_non : truthy (.d .non) S = some false := id rfl
@[simp] theorem tr_int : truthy (.d (.int i)) S = some (i != 0) := id rfl
@[simp] theorem bi_abs : biD .abs [.d (.int i)] S = some (.int (if i < 0 then -i else i)) := id rfl
@[simp] theorem bi_int : biD .int [.d (.int i)] S = some (.int i) := id rfl
@[simp] theorem bi_intb : biD .int [.d (.bl b)] S = some (.int (if b = true then 1 else 0)) := id rfl
@[simp] theorem bi_len_tup : biD .len [.d (.tup xs)] S = some (.int xs.length) := id rfl
@[simp] theorem bi_len_lst : biD .len [.d (.lst xs)] S = some (.int xs.length) := id rfl
@[simp] theorem bi_len_loc : biD .len [.loc l] S = match S[l]? with
    | some (.lst xs) => some (.int xs.length)
    | _ => none := by
  simp only [biD, seqOf]
  generalize S[l]? = o
  cases o with
  | none => rfl
  | some c => cases c <;> rfl
@[simp] theorem bi_tuple_lst : biD .tuple [.d (.lst xs)] S = some (.tup xs) := id rfl
@[simp] theorem bi_tuple_tup : biD .tuple [.d (.tup xs)] S = some (.tup xs) := id rfl
@[simp] theorem bi_tuple_loc : biD .tuple [.loc l] S = match S[l]? with
    | some (.lst xs) => some (.tup xs)
    | _ => none := by
  simp only [biD, seqOf]
  generalize S[l]? = o
  cases o with
  | none => rfl
  | some c => cases c <;> rfl
@[simp] theorem bi_list_lst : biD .list [.d (.lst xs)] S = some (.lst xs) := id rfl
@[simp] theorem bi_list_tup : biD .list [.d (.tup xs)] S = some (.lst xs) := id rfl
@[simp] theorem bi_all : biD .all [.d (.lst xs)] S = (allB xs).map .bl := id rfl
@[simp] theorem bi_any : biD .any [.d (.lst xs)] S = (anyB xs).map .bl := id rfl
@[simp] theorem bn_add : binD .add (.d (.int i)) (.d (.int j)) S = some (.int (i + j)) := id rfl
@[simp] theorem bn_sub : binD .sub (.d (.int i)) (.d (.int j)) S = some (.int (i - j)) := id rfl
@[simp] theorem bn_mul : binD .mul (.d (.int i)) (.d (.int j)) S = if bitsOk i j = true then some (.int (i * j)) else none := id rfl
def fdB (j : Int) : Bool := decide ((0 < j ∧ j.natAbs.log2 < 9000) ∨ (j ≠ 0 ∧ j.natAbs.log2 < 9000))
theorem fdB_pos {j : Int} (h : 0 < j) (h2 : j < 18446744073709551616) : fdB j = true := by
  have : j.natAbs.log2 < 64 := (Nat.log2_lt (by omega)).mpr (by omega)
  simp only [fdB, decide_eq_true_eq]
  exact .inl ⟨h, by omega⟩
@[simp] theorem fdB_1 : fdB 1009 = true := by decide
@[simp] theorem fdB_2 : fdB 2003 = true := by decide
@[simp] theorem fdB_3 : fdB 16 = true := by decide
/-- the top is short enough -/
def fdW (i j : Int) : Bool := decide (j ≠ 0 ∧ i.natAbs.log2 < 13500)
@[simp] theorem bn_fdiv : binD .fdiv (.d (.int i)) (.d (.int j)) S = if (fdB j || fdW i j) = true then some (.int (i.fdiv j)) else none := by
  show (if (0 < j ∧ j.natAbs.log2 < 9000) ∨ (j ≠ 0 ∧ (j.natAbs.log2 < 9000 ∨ i.natAbs.log2 < 13500)) then some (D.int (i.fdiv j)) else none) = _
  have e : ((0 < j ∧ j.natAbs.log2 < 9000) ∨ (j ≠ 0 ∧ (j.natAbs.log2 < 9000 ∨ i.natAbs.log2 < 13500))) ↔ (fdB j || fdW i j) = true := by
    simp only [fdB, fdW, Bool.or_eq_true, decide_eq_true_eq]
    omega
  by_cases h : (fdB j || fdW i j) = true
  · rw [if_pos h, if_pos (e.mpr h)]
  · rw [if_neg h, if_neg (fun x => h (e.mp x))]
@[simp] theorem bn_mod : binD .mod (.d (.int i)) (.d (.int j)) S = if j ≠ 0 then some (.int (i.fmod j)) else none := id rfl
@[simp] theorem bn_pow : binD .pow (.d (.int i)) (.d (.int j)) S = if 0 ≤ j ∧ j ≤ 1000000 ∧ i.natAbs < 2 ^ 64 then some (.int (i ^ j.toNat)) else none := id rfl
@[simp] theorem bn_addt : binD .add (.d (.tup xs)) (.d (.tup ys)) S = if xs.length + ys.length ≤ line then some (.tup (xs ++ ys)) else none := id rfl
@[simp] theorem bn_addl : binD .add (.d (.lst xs)) (.d (.lst ys)) S = if xs.length + ys.length ≤ line then some (.lst (xs ++ ys)) else none := id rfl
@[simp] theorem bn_adds : binD .add (.d (.str s)) (.d (.str t)) S = if s.length + t.length ≤ line then some (.str (s ++ t)) else none := id rfl
@[simp] theorem bn_mult : binD .mul (.d (.tup xs)) (.d (.int j)) S = if -(2 ^ 63) ≤ j ∧ j ≤ 1000 ∧ xs.length ≤ 1000 then some (.tup (rep j xs)) else none := id rfl
@[simp] theorem bn_mull : binD .mul (.d (.lst xs)) (.d (.int j)) S = if xs.length * j.toNat ≤ line ∧ -(2 ^ 63) ≤ j ∧ j < 2 ^ 63 then some (.lst (rep j xs)) else none := id rfl
@[simp] theorem cm_lt : cmpW C .lt (.d (.int i)) (.d (.int j)) S = .ok (.d (.bl (decide (i < j)))) S := id rfl
@[simp] theorem cm_le : cmpW C .le (.d (.int i)) (.d (.int j)) S = .ok (.d (.bl (decide (i ≤ j)))) S := id rfl
@[simp] theorem cm_gt : cmpW C .gt (.d (.int i)) (.d (.int j)) S = .ok (.d (.bl (decide (j < i)))) S := id rfl
@[simp] theorem cm_ge : cmpW C .ge (.d (.int i)) (.d (.int j)) S = .ok (.d (.bl (decide (j ≤ i)))) S := id rfl
@[simp] theorem cD_lt : cmpD .lt (.d (.int i)) (.d (.int j)) S = some (decide (i < j)) := id rfl
@[simp] theorem cD_le : cmpD .le (.d (.int i)) (.d (.int j)) S = some (decide (i ≤ j)) := id rfl
theorem pyEq_ii (i j : Int) : pyEq (.int i) (.int j) = some (decide (i = j)) := by
  unfold pyEq
  by_cases e : i = j
  · subst e; simp [toPD, PySem.SeqAt.shaped, PySem.PyData.eqv, PySem.PyData.canLay0, PySem.PyData.depth]
  · simp [toPD, PySem.SeqAt.shaped, PySem.PyData.eqv, PySem.PyData.canLay0, PySem.PyData.depth, e]
@[simp] theorem cm_eqi : cmpW C .eq (.d (.int i)) (.d (.int j)) S = .ok (.d (.bl (decide (i = j)))) S := by
  unfold cmpW
  simp only [eqOwnE_int, cmpD, eqD, pyEq_ii, ofO_some, Res.bind_ok, bnd_ok]
@[simp] theorem cm_nei : cmpW C .ne (.d (.int i)) (.d (.int j)) S = .ok (.d (.bl (!decide (i = j)))) S := by
  have e : eqOwn C (.d (.int i)) (.d (.int j)) S = none := id rfl
  unfold cmpW
  simp only [e, cmpD, eqD, pyEq_ii, ofO_some, Res.bind_ok, bnd_ok, Option.map_some]
@[simp] theorem cm_eqs : cmpW C .eq (.d (.str s)) (.d (.str t)) S = .ok (.d (.bl (decide (s = t)))) S := by
  unfold cmpW
  simp only [eqOwnE_str, cmpD, eqD, ofO_some, Res.bind_ok, bnd_ok]
@[simp] theorem ix_tup : ixD (.d (.tup xs)) (.d (.int i)) S = (L2.atI xs i).map .d := id rfl
@[simp] theorem ix_lst : ixD (.d (.lst xs)) (.d (.int i)) S = (L2.atI xs i).map .d := id rfl
@[simp] theorem ix_loc : ixD (.loc l) (.d (.int i)) S = match S[l]? with
    | some (.lst xs) => (L2.atI xs i).map .d
    | some (.lsw ws) => L2.atI ws i
    | _ => none := id rfl
@[simp] theorem sl_tup {lo hi : Option Int} : slD (.d (.tup xs)) lo hi S = some (.tup (cut xs lo hi)) := id rfl
@[simp] theorem sl_lst {lo hi : Option Int} : slD (.d (.lst xs)) lo hi S = some (.lst (cut xs lo hi)) := id rfl
@[simp] theorem at0 {α : Type} (x : α) (xs : List α) : L2.atI (x :: xs) 0 = some x := L2.atI_nat (j := 0) rfl
@[simp] theorem at1 {α : Type} (x y : α) (xs : List α) : L2.atI (x :: y :: xs) 1 = some y := L2.atI_nat (j := 1) rfl
@[simp] theorem at2 {α : Type} (x y z : α) (xs : List α) : L2.atI (x :: y :: z :: xs) 2 = some z := L2.atI_nat (j := 2) rfl
@[simp] theorem th_lst : thawD (.d (.lst xs)) S = .ok (.loc S.length) (S ++ [.lst xs]) := id rfl
@[simp] theorem tn_non : tyName (.d .non) S = some .none := id rfl
@[simp] theorem tn_bl : tyName (.d (.bl b)) S = some .bool := id rfl
@[simp] theorem tn_int : tyName (.d (.int i)) S = some .int := id rfl
@[simp] theorem tn_str : tyName (.d (.str s)) S = some .str := id rfl
@[simp] theorem tn_tup : tyName (.d (.tup xs)) S = some .tuple := id rfl
@[simp] theorem tn_lst : tyName (.d (.lst xs)) S = some .list := id rfl
@[simp] theorem tn_dic {kvs : List (D × D)} : tyName (.d (.dic kvs)) S = some .dict := id rfl
@[simp] theorem tn_obj : tyName (.d (.obj c fs)) S = some (.cls c) := id rfl
@[simp] theorem sq_tup : seqOf (.d (.tup xs)) S = some (.tup, xs) := id rfl
@[simp] theorem sq_lst : seqOf (.d (.lst xs)) S = some (.lst, xs) := id rfl
@[simp] theorem ss_lsti {w : W} : setSub (.loc l) (.d (.int i)) w S = match S[l]? with
    | some (.lst xs) => match L2.ixN xs.length i with
      | some j => (toD w S).bnd fun x S1 => match S1[l]? with
        | some (.lst xs) => .ok () (S1.set l (.lst (xs.set j x)))
        | _ => .stk
      | none => .stk
    | some (.lsw ws) => match L2.ixN ws.length i with
      | some j => .ok () (S.set l (.lsw (ws.set j w)))
      | none => .stk
    | _ => .stk := id rfl
@[simp] theorem bm_append {w : W} : bmD .append (.loc l) [w] S = match S[l]? with
    | some (.lst xs) => (toD w S).bnd fun x S1 => match S1[l]? with
      | some (.lst xs) => if xs.length < line then .ok (.d .non) (S1.set l (.lst (xs ++ [x]))) else .stk
      | _ => .stk
    | _ => .stk := id rfl
@[simp] theorem bm_pop : bmD .pop (.loc l) [.d (.int i)] S = match S[l]? with
    | some (.lst xs) => match L2.ixN xs.length i with
      | some k => match xs[k]? with
        | some x => .ok (.d x) (S.set l (.lst (xs.eraseIdx k)))
        | none => .stk
      | none => .stk
    | _ => .stk := id rfl
@[simp] theorem bm_tcount {xs : List D} {x : D} : bmD .tcount (.d (.tup xs)) [.d x] S = if flatD x && xs.all flatD then .ok (.d (.int (xs.countP (eqF · x)))) S else .stk := id rfl
@[simp] theorem rc_tcount {xs : List D} : recvOk .tcount (.d (.tup xs)) S = true := rfl
@[simp] theorem rc_loc {m : BM} (h : m ≠ .join ∧ m ≠ .split ∧ m ≠ .tcount := by decide) : recvOk m (.loc l) S = match S[l]? with
    | some (.lst _) => true
    | _ => false := by
  cases m <;> first | exact absurd rfl h.1 | exact absurd rfl h.2.1 | exact absurd rfl h.2.2 | (simp only [recvOk, lstOf]; generalize S[l]? = o; cases o with | none => rfl | some c => cases c <;> rfl)
end
/-! ### calls -/
theorem runT {P : Prog} {fu n f : Nat} {fd : FnD} {ws : List W} {S : Store} (h1 : P.fns[f]? = some fd) (h2 : ws.length = fd.np) : callF P fu (n + 1) f ws S = finish fd.keep S.length (execSs ⟨callF P fu n, P, fu⟩ fd.body (startE fd.N.length ws) S) := by
  show (match P.fns[f]? with
    | some fd => if ws.length = fd.np then finish fd.keep S.length (execSs ⟨callF P fu n, P, fu⟩ fd.body (startE fd.N.length ws) S) else .stk
    | none => .stk) = _
  rw [h1]
  dsimp only
  rw [if_pos h2]
/-- what is let go at a call's end -/
structure Sok (n : Nat) (S : Store) : Prop where
  b : belows n (S.take n) = true
  l : n ≤ S.length
theorem Tot.fin {r : Res Flow} {n : Nat} {Q : W → Store → Prop} (h : Tot r fun f S1 => Sok n S1 ∧ match f with
    | .ret (.d x) => Q (.d x) (S1.take n)
    | .nx _ => Q (.d .non) (S1.take n)
    | _ => False) : Tot (finish false n r) Q := by
  cases r with
  | ok f S1 =>
    obtain ⟨s, q⟩ := h.h
    cases f with
    | nx η => simp only [finish, close, s.b, s.l, and_self, if_true, freeze]; exact ⟨q⟩
    | ret w =>
      cases w with
      | d x => simp only [finish, close, s.b, s.l, and_self, if_true, freeze]; exact ⟨q⟩
      | _ => exact q.elim
    | _ => exact q.elim
  | exc _ _ _ => exact h.h.elim
  | stk => exact h.h.elim
/-! ### loops -/
section
variable {set : W → Env → Store → Res Env} {tst : Env → Store → Res Bool} {elt : Env → Store → Res W} {body : Env → Store → Res Flow} {η : Env}
/-- a comprehension whose turns tell each one thing -/
theorem Tot.lcG (P : D → Prop) (J : Nat → Store → Prop) {xs : List D} (ht : ∀ η S, tst η S = .ok true S) (hs : ∀ x ∈ xs, ∀ k S, J k S → k < xs.length → Tot ((set (.d x) η S).bnd fun η1 S1 => elt η1 S1) fun w S' => ∃ y, w = .d y ∧ P y ∧ J (k + 1) S') :
    ∀ (ys acc : List D) (k : Nat) (S : Store), (∀ y ∈ ys, y ∈ xs) → k + ys.length = xs.length → acc.length + ys.length ≤ line → (∀ y ∈ acc, P y) → J k S → Tot (lcFix set tst elt η ys acc S) fun zs S' => zs.length = acc.length + ys.length ∧ (∀ z ∈ zs, P z) ∧ J xs.length S'
  | [], acc, k, S, _, hk, _, ha, hj => by simp at hk; subst hk; simp [lcFix]; exact ⟨ha, hj⟩
  | x :: ys, acc, k, S, hm, hk, hl, ha, hj => by
    simp only [List.length_cons] at hk hl
    have h1 := hs x (hm x (by simp)) k S hj (by omega)
    rw [lcFix, lcTurn]
    simp only [bind_bnd]
    simp only [ht, bind_assoc', Res.bind_ok, bnd_ok, if_true]
    cases e : set (.d x) η S with
    | ok η1 S1 =>
      rw [e] at h1
      rw [bnd_ok] at h1
      simp only [bnd_ok, ht, if_true, bind_assoc']
      refine h1.seq ?_
      rintro w S2 ⟨y, rfl, py, j2⟩
      simp only [toD_d, Res.bind_ok, bnd_ok]
      rw [if_pos (show acc.length < line by omega)]
      rw [bnd_ok]
      refine (Tot.lcG P J ht hs ys (acc ++ [y]) (k + 1) S2 (fun z hz => hm z (by simp [hz])) (by omega) (by simp; omega) (by
        intro z hz
        rcases List.mem_append.mp hz with hz | hz
        · exact ha z hz
        · simp at hz; subst hz; exact py) j2).mono ?_
      rintro zs S' ⟨h1, h2, h3⟩
      exact ⟨by rw [h1]; simp; omega, h2, h3⟩
    | exc _ _ _ => rw [e] at h1; exact h1.h.elim
    | stk => rw [e] at h1; exact h1.h.elim
/-- a comprehension with a test -/
theorem Tot.lcF (P : D → Prop) (J : Nat → Store → Prop) {xs : List D} (hs : ∀ x ∈ xs, ∀ k acc S, J k S → k < xs.length → acc.length < line → Tot (lcTurn set tst elt η x acc S) fun acc' S' => (acc' = acc ∨ ∃ y, P y ∧ acc' = acc ++ [y]) ∧ J (k + 1) S') :
    ∀ (ys acc : List D) (k : Nat) (S : Store), (∀ y ∈ ys, y ∈ xs) → k + ys.length = xs.length → acc.length + ys.length ≤ line → (∀ y ∈ acc, P y) → J k S → Tot (lcFix set tst elt η ys acc S) fun zs S' => zs.length ≤ acc.length + ys.length ∧ (∀ z ∈ zs, P z) ∧ J xs.length S'
  | [], acc, k, S, _, hk, _, ha, hj => by simp at hk; subst hk; simp [lcFix]; exact ⟨ha, hj⟩
  | x :: ys, acc, k, S, hm, hk, hl, ha, hj => by
    simp only [List.length_cons] at hk hl
    rw [lcFix]
    try simp only [bind_bnd]
    refine (hs x (hm x (by simp)) k acc S hj (by omega) (by omega)).seq ?_
    rintro acc' S2 ⟨h1, j2⟩
    have h3 : acc'.length ≤ acc.length + 1 ∧ ∀ y ∈ acc', P y := by
      rcases h1 with rfl | ⟨y, py, rfl⟩
      · exact ⟨by omega, ha⟩
      · exact ⟨by simp, fun z hz => by
          rcases List.mem_append.mp hz with hz | hz
          · exact ha z hz
          · simp at hz; subst hz; exact py⟩
    refine (Tot.lcF P J hs ys acc' (k + 1) S2 (fun z hz => hm z (by simp [hz])) (by omega) (by omega) h3.2 j2).mono ?_
    rintro zs S' ⟨h1, h2, h3⟩
    exact ⟨by simp; omega, h2, h3⟩
/-- a for loop by an invariant over what is to come -/
theorem Tot.for_ {Q : Flow → Store → Prop} (I : List D → Env → Store → Prop) (hs : ∀ x xs η S, I (x :: xs) η S → Tot ((set (.d x) η S).bnd fun η1 S1 => body η1 S1) fun f S' => match f with
    | .nx η2 => I xs η2 S'
    | .cont η2 => I xs η2 S'
    | .brk η2 => Q (.nx η2) S'
    | .ret w => Q (.ret w) S') (hd : ∀ η S, I [] η S → Q (.nx η) S) :
    ∀ (xs : List D) (η : Env) (S : Store), I xs η S → Tot (forFix set body xs η S) Q
  | [], η, S, h => by simp [forFix]; exact hd η S h
  | x :: xs, η, S, h => by
    have h1 := hs x xs η S h
    rw [forFix]
    try simp only [bind_bnd]
    rw [Tot_noExc_bind]
    cases e : set (.d x) η S with
    | ok η1 S1 =>
      rw [e] at h1
      rw [bnd_ok] at h1 ⊢
      refine h1.seq ?_
      intro f S2 q
      cases f with
      | nx η2 => exact Tot.for_ I hs hd xs η2 S2 q
      | cont η2 => exact Tot.for_ I hs hd xs η2 S2 q
      | brk η2 => exact ⟨q⟩
      | ret w => exact ⟨q⟩
    | exc _ _ _ => rw [e] at h1; exact h1.h.elim
    | stk => rw [e] at h1; exact h1.h.elim
/-- a while loop by an invariant and a measure -/
theorem Tot.whl {c : Env → Store → Res Bool} {Q : Flow → Store → Prop} (I : Nat → Env → Store → Prop) (hs : ∀ m η S, I m η S → Tot (c η S) fun b S1 => if b = true then Tot (body η S1) fun f S2 => match f with
      | .nx η2 => ∃ m', m' < m ∧ I m' η2 S2
      | .cont η2 => ∃ m', m' < m ∧ I m' η2 S2
      | .brk η2 => Q (.nx η2) S2
      | .ret w => Q (.ret w) S2
    else Q (.nx η) S1) : ∀ (n m : Nat) (η : Env) (S : Store), m < n → I m η S → Tot (whileL c body n η S) Q
  | 0, m, η, S, hm, _ => absurd hm (Nat.not_lt_zero _)
  | n + 1, m, η, S, hm, hi => by
    rw [whileL]
    try simp only [bind_bnd]
    refine (hs m η S hi).seq ?_
    intro b S1 q
    cases b with
    | false => simpa using q
    | true =>
      simp only [if_true] at q ⊢
      refine q.seq ?_
      intro f S2 q2
      cases f with
      | nx η2 => obtain ⟨m', h1, h2⟩ := q2; exact Tot.whl I hs n m' η2 S2 (by omega) h2
      | cont η2 => obtain ⟨m', h1, h2⟩ := q2; exact Tot.whl I hs n m' η2 S2 (by omega) h2
      | brk η2 => exact ⟨q2⟩
      | ret w => exact ⟨q2⟩
end
theorem cut_to {α : Type} (xs : List α) (k : Nat) : cut xs none (some (k : Int)) = xs.take k := by
  unfold cut
  rw [HT.sIx_nat, HT.sIx_none, List.drop_zero, Nat.sub_zero]
  by_cases h : k ≤ xs.length
  · rw [Nat.min_eq_left h]
  · rw [Nat.min_eq_right (by omega), List.take_of_length_le (Nat.le_refl _), List.take_of_length_le (by omega)]
theorem cut_from {α : Type} (xs : List α) (k : Nat) : cut xs (some (k : Int)) none = xs.drop k := by
  unfold cut
  rw [HT.sIx_nat, HT.sIx_none]
  by_cases h : k ≤ xs.length
  · rw [Nat.min_eq_left h, List.take_of_length_le (by rw [List.length_drop]; exact Nat.le_refl _)]
  · rw [Nat.min_eq_right (by omega), List.drop_eq_nil_of_le (Nat.le_refl _), List.drop_eq_nil_of_le (by omega), List.take_nil]
theorem cut_last {α : Type} (xs : List α) : cut xs none (some (-1)) = xs.dropLast := by
  unfold cut
  rw [HT.sIx_none, List.drop_zero, Nat.sub_zero, List.dropLast_eq_take]
  congr 1
  have : HT.sIx xs.length xs.length (some (-1)) = ((-1 : Int) + (xs.length : Int)).toNat := rfl
  rw [this]
  omega
theorem cut_map {α β : Type} (f : α → β) (xs : List α) (lo hi : Option Int) : cut (xs.map f) lo hi = (cut xs lo hi).map f := by
  unfold cut
  simp [List.map_take, List.map_drop]
theorem intsOf_map : ∀ ns : List Int, intsOf (ns.map .int) = some ns
  | [] => rfl
  | n :: r => by simp [intsOf, intsOf_map r]
theorem ints_ex : ∀ {zs : List D}, (∀ z ∈ zs, ∃ c : Int, z = .int c) → ∃ cs : List Int, zs = cs.map .int
  | [], _ => ⟨[], rfl⟩
  | z :: zs, h => by
    obtain ⟨c, rfl⟩ := h z (by simp)
    obtain ⟨cs, rfl⟩ := ints_ex (zs := zs) (fun y hy => h y (by simp [hy]))
    exact ⟨c :: cs, rfl⟩
/-- a comprehension that only reckons -/
theorem lcNm {C : Ctx} {i : Nat} {e : IE} {η : Env} {S : Store} (g : D → D) {xs : List D} (hl : xs.length ≤ line) (hi : i < η.length) (he : ∀ x ∈ xs, (evalP C e).1 (η.set i (some (.d x))) S = .ok (.d (g x)) S) :
    lcSrc (setT C (.nm i)) (evalC C .no) (evalP C e).1 η (.fix xs) S = .ok (xs.map g) S := by
  have key : ∀ (ys acc : List D), (∀ y ∈ ys, y ∈ xs) → acc.length + ys.length ≤ line → lcFix (setT C (.nm i)) (evalC C .no) (evalP C e).1 η ys acc S = .ok (acc ++ ys.map g) S := by
    intro ys
    induction ys with
    | nil => intro acc _ _; simp [lcFix]
    | cons y ys ih =>
      intro acc hm hl
      simp only [List.length_cons] at hl
      rw [lcFix, lcTurn]
      simp only [bind_bnd]
      rw [st_nm, if_pos hi, bnd_ok, ec_no]
      simp only [Res.bind_ok, bnd_ok, if_true]
      rw [he y (hm y (by simp)), bnd_ok, toD_d, bnd_ok, if_pos (show acc.length < line by omega), bnd_ok]
      have := ih (acc ++ [g y]) (fun z hz => hm z (by simp [hz])) (by simp; omega)
      first | rw [this] | (rw [ec_no] at this; rw [this])
      simp
  show lcFix _ _ _ _ xs [] S = _
  rw [key xs [] (fun _ h => h) (by simpa using hl)]
  simp
/-- the same over pairs -/
theorem lcNm2 {C : Ctx} {i j : Nat} {e : IE} {η : Env} {S : Store} (g : D → D) {xs : List D} (hl : xs.length ≤ line) (hi : i < η.length) (hj : j < η.length) (he : ∀ x ∈ xs, ∃ a b, x = .tup [a, b] ∧ (evalP C e).1 ((η.set i (some (.d a))).set j (some (.d b))) S = .ok (.d (g x)) S) :
    lcSrc (setT C (.tup (.cons (.nm i) (.cons (.nm j) .nil)))) (evalC C .no) (evalP C e).1 η (.fix xs) S = .ok (xs.map g) S := by
  have key : ∀ (ys acc : List D), (∀ y ∈ ys, y ∈ xs) → acc.length + ys.length ≤ line → lcFix (setT C (.tup (.cons (.nm i) (.cons (.nm j) .nil)))) (evalC C .no) (evalP C e).1 η ys acc S = .ok (acc ++ ys.map g) S := by
    intro ys
    induction ys with
    | nil => intro acc _ _; simp [lcFix]
    | cons y ys ih =>
      intro acc hm hl
      simp only [List.length_cons] at hl
      obtain ⟨a, b, rfl, hv⟩ := he y (hm y (by simp))
      rw [lcFix, lcTurn]
      simp only [bind_bnd]
      rw [st_tup]
      simp only [sq_tup, sts_cons, sts_nil, st_nm, hi, if_true, Res.bind_ok, bnd_ok, List.length_set, hj, ec_no]
      rw [hv, bnd_ok, toD_d, bnd_ok, if_pos (show acc.length < line by omega), bnd_ok]
      have := ih (acc ++ [g (.tup [a, b])]) (fun z hz => hm z (by simp [hz])) (by simp; omega)
      first | rw [this] | (rw [ec_no] at this; rw [this])
      simp
  show lcFix _ _ _ _ xs [] S = _
  rw [key xs [] (fun _ h => h) (by simpa using hl)]
  simp
theorem allB_map {α : Type} (p : α → Bool) : ∀ xs : List α, allB (xs.map fun x => .bl (p x)) = some (xs.all p)
  | [] => rfl
  | x :: xs => by simp [allB, allB_map p xs]
/-- a def whose end is a thing told -/
theorem runD {P : Prog} {fu n f : Nat} {fd : FnD} {ws : List W} {S : Store} {x : D} (h1 : P.fns[f]? = some fd) (h2 : ws.length = fd.np) (hk : fd.keep = false) (hS : belows S.length S = true)
    (h : execSs ⟨callF P fu n, P, fu⟩ fd.body (startE fd.N.length ws) S = .ok (.ret (.d x)) S) : callF P fu (n + 1) f ws S = .ok (.d x) S := by
  rw [runT h1 h2, h, hk]
  simp [finish, close, hS, freeze]
theorem runX {P : Prog} {fu n f : Nat} {fd : FnD} {ws : List W} {S : Store} {c : Nat} {fs : List (Nat × D)} (h1 : P.fns[f]? = some fd) (h2 : ws.length = fd.np) (hk : fd.keep = false) (hS : belows S.length S = true)
    (h : execSs ⟨callF P fu n, P, fu⟩ fd.body (startE fd.N.length ws) S = .exc c fs S) : callF P fu (n + 1) f ws S = .exc c fs S := by
  rw [runT h1 h2, h, hk]
  simp [finish, hS]
/-- an item of a written list -/
theorem ix_in {xs : List D} {i : Int} (h0 : 0 ≤ i) (h1 : i < xs.length) : ∃ x ∈ xs, L2.atI xs i = some x := by
  obtain ⟨k, rfl⟩ : ∃ k : Nat, i = (k : Int) := ⟨i.toNat, by omega⟩
  have hk : k < xs.length := by omega
  refine ⟨xs[k], List.getElem_mem hk, L2.atI_nat (List.getElem?_eq_getElem hk)⟩
end RI
/-! EU: the steps of the gcd loop, whatever the size of its numbers. -/
namespace EU
open RI
def eu (x y : Nat) : Nat := if h : y = 0 then 0 else eu y (x % y) + 1
termination_by y
decreasing_by exact Nat.mod_lt _ (Nat.pos_of_ne_zero h)
theorem eu_zero (x : Nat) : eu x 0 = 0 := by rw [eu]; simp
theorem eu_pos {x y : Nat} (h : y ≠ 0) : eu x y = eu y (x % y) + 1 := by rw [eu]; simp [h]
theorem mod_half {y z : Nat} (h : z < y) (h0 : z ≠ 0) : 2 * (y % z) < y := by
  have h1 : y % z < z := Nat.mod_lt _ (Nat.pos_of_ne_zero h0)
  have h2 := Nat.div_add_mod y z
  have h3 : 1 ≤ y / z := (Nat.le_div_iff_mul_le (Nat.pos_of_ne_zero h0)).mpr (by omega)
  have h4 : z * 1 ≤ z * (y / z) := Nat.mul_le_mul_left z h3
  omega
theorem eu_le : ∀ (b x y : Nat), y < 2 ^ b → eu x y ≤ 2 * b
  | 0, x, y, h => by
    have : y = 0 := by simp at h; exact h
    subst this
    rw [eu_zero]
    exact Nat.zero_le _
  | b + 1, x, y, h => by
    by_cases hy : y = 0
    · subst hy; rw [eu_zero]; exact Nat.zero_le _
    · rw [eu_pos hy]
      have hz : x % y < y := Nat.mod_lt _ (Nat.pos_of_ne_zero hy)
      generalize x % y = z at hz
      by_cases h0 : z = 0
      · subst h0; rw [eu_zero]; omega
      · rw [eu_pos h0]
        have h1 := mod_half hz h0
        have h2 : y % z < 2 ^ b := by rw [Nat.pow_succ] at h; omega
        have := eu_le b z (y % z) h2
        omega
theorem eu_log {x y : Nat} : eu x y ≤ 2 * (y.log2 + 1) := eu_le _ _ _ Nat.lt_log2_self
end EU
/-! PV: comprehensions and loops over what is mapped. -/
namespace RI
section
variable {C : Ctx} {η : Env} {S : Store} {α β : Type}
/-- a comprehension that only reckons, over what is mapped -/
theorem lcMap {i : Nat} {e : IE} (f g : α → D) {zs : List α} (hl : zs.length ≤ line) (hi : i < η.length) (he : ∀ z ∈ zs, (evalP C e).1 (η.set i (some (.d (f z)))) S = .ok (.d (g z)) S) :
    lcSrc (setT C (.nm i)) (evalC C .no) (evalP C e).1 η (.fix (zs.map f)) S = .ok (zs.map g) S := by
  have key : ∀ (ys : List α) (acc : List D), (∀ y ∈ ys, y ∈ zs) → acc.length + ys.length ≤ line → lcFix (setT C (.nm i)) (evalC C .no) (evalP C e).1 η (ys.map f) acc S = .ok (acc ++ ys.map g) S := by
    intro ys
    induction ys with
    | nil => intro acc _ _; simp [lcFix]
    | cons y ys ih =>
      intro acc hm hl
      simp only [List.length_cons] at hl
      rw [List.map_cons, lcFix, lcTurn]
      simp only [bind_bnd]
      rw [st_nm, if_pos hi, bnd_ok, ec_no]
      simp only [Res.bind_ok, bnd_ok, if_true]
      rw [he y (hm y (by simp)), bnd_ok, toD_d, bnd_ok, if_pos (show acc.length < line by omega), bnd_ok]
      have := ih (acc ++ [g y]) (fun z hz => hm z (by simp [hz])) (by simp; omega)
      first | rw [this] | (rw [ec_no] at this; rw [this])
      simp
  show lcFix _ _ _ _ (zs.map f) [] S = _
  rw [key zs [] (fun _ h => h) (by simpa using hl)]
  simp
theorem lcMap2 {i j : Nat} {e : IE} (f f2 g : α → D) {zs : List α} (hl : zs.length ≤ line) (hi : i < η.length) (hj : j < η.length) (he : ∀ z ∈ zs, (evalP C e).1 ((η.set i (some (.d (f z)))).set j (some (.d (f2 z)))) S = .ok (.d (g z)) S) :
    lcSrc (setT C (.tup (.cons (.nm i) (.cons (.nm j) .nil)))) (evalC C .no) (evalP C e).1 η (.fix (zs.map fun z => .tup [f z, f2 z])) S = .ok (zs.map g) S := by
  have key : ∀ (ys : List α) (acc : List D), (∀ y ∈ ys, y ∈ zs) → acc.length + ys.length ≤ line → lcFix (setT C (.tup (.cons (.nm i) (.cons (.nm j) .nil)))) (evalC C .no) (evalP C e).1 η (ys.map fun z => .tup [f z, f2 z]) acc S = .ok (acc ++ ys.map g) S := by
    intro ys
    induction ys with
    | nil => intro acc _ _; simp [lcFix]
    | cons y ys ih =>
      intro acc hm hl
      simp only [List.length_cons] at hl
      rw [List.map_cons, lcFix, lcTurn]
      simp only [bind_bnd]
      rw [st_tup]
      simp only [sq_tup, sts_cons, sts_nil, st_nm, hi, if_true, Res.bind_ok, bnd_ok, List.length_set, hj, ec_no]
      rw [he y (hm y (by simp)), bnd_ok, toD_d, bnd_ok, if_pos (show acc.length < line by omega), bnd_ok]
      have := ih (acc ++ [g y]) (fun z hz => hm z (by simp [hz])) (by simp; omega)
      first | rw [this] | (rw [ec_no] at this; rw [this])
      simp
  show lcFix _ _ _ _ (zs.map fun z => .tup [f z, f2 z]) [] S = _
  rw [key zs [] (fun _ h => h) (by simpa using hl)]
  simp
/-- the same with a test -/
theorem lcFil {i : Nat} {e c : IE} (f g : α → D) (p : α → Bool) {zs : List α} (hl : zs.length ≤ line) (hi : i < η.length) (hc : ∀ z ∈ zs, (evalP C c).2 (η.set i (some (.d (f z)))) S = .ok (p z) S) (he : ∀ z ∈ zs, p z = true → (evalP C e).1 (η.set i (some (.d (f z)))) S = .ok (.d (g z)) S) :
    lcSrc (setT C (.nm i)) (evalC C (.yes c)) (evalP C e).1 η (.fix (zs.map f)) S = .ok ((zs.filter p).map g) S := by
  have key : ∀ (ys : List α) (acc : List D), (∀ y ∈ ys, y ∈ zs) → acc.length + ys.length ≤ line → lcFix (setT C (.nm i)) (evalC C (.yes c)) (evalP C e).1 η (ys.map f) acc S = .ok (acc ++ (ys.filter p).map g) S := by
    intro ys
    induction ys with
    | nil => intro acc _ _; simp [lcFix]
    | cons y ys ih =>
      intro acc hm hl
      simp only [List.length_cons] at hl
      rw [List.map_cons, lcFix, lcTurn]
      simp only [bind_bnd]
      rw [st_nm, if_pos hi, bnd_ok, ec_yes, hc y (hm y (by simp)), bnd_ok]
      rw [ec_yes] at ih
      cases hp : p y with
      | true =>
        simp only [if_true]
        rw [he y (hm y (by simp)) hp, bnd_ok, toD_d, bnd_ok, if_pos (show acc.length < line by omega), bnd_ok]
        rw [ih (acc ++ [g y]) (fun z hz => hm z (by simp [hz])) (by simp; omega)]
        simp [hp]
      | false =>
        simp only [Bool.false_eq_true, if_false, bnd_ok]
        rw [ih acc (fun z hz => hm z (by simp [hz])) (by omega)]
        simp [hp]
  show lcFix _ _ _ _ (zs.map f) [] S = _
  rw [key zs [] (fun _ h => h) (by simpa using hl)]
  simp
theorem lcFil2 {i j : Nat} {e c : IE} (f f2 g : α → D) (p : α → Bool) {zs : List α} (hl : zs.length ≤ line) (hi : i < η.length) (hj : j < η.length) (hc : ∀ z ∈ zs, (evalP C c).2 ((η.set i (some (.d (f z)))).set j (some (.d (f2 z)))) S = .ok (p z) S) (he : ∀ z ∈ zs, p z = true → (evalP C e).1 ((η.set i (some (.d (f z)))).set j (some (.d (f2 z)))) S = .ok (.d (g z)) S) :
    lcSrc (setT C (.tup (.cons (.nm i) (.cons (.nm j) .nil)))) (evalC C (.yes c)) (evalP C e).1 η (.fix (zs.map fun z => .tup [f z, f2 z])) S = .ok ((zs.filter p).map g) S := by
  have key : ∀ (ys : List α) (acc : List D), (∀ y ∈ ys, y ∈ zs) → acc.length + ys.length ≤ line → lcFix (setT C (.tup (.cons (.nm i) (.cons (.nm j) .nil)))) (evalC C (.yes c)) (evalP C e).1 η (ys.map fun z => .tup [f z, f2 z]) acc S = .ok (acc ++ (ys.filter p).map g) S := by
    intro ys
    induction ys with
    | nil => intro acc _ _; simp [lcFix]
    | cons y ys ih =>
      intro acc hm hl
      simp only [List.length_cons] at hl
      rw [List.map_cons, lcFix, lcTurn]
      simp only [bind_bnd]
      rw [st_tup]
      simp only [sq_tup, sts_cons, sts_nil, st_nm, hi, if_true, Res.bind_ok, bnd_ok, List.length_set, hj, ec_yes]
      rw [hc y (hm y (by simp)), bnd_ok]
      cases hp : p y with
      | true =>
        simp only [if_true]
        rw [he y (hm y (by simp)) hp, bnd_ok, toD_d, bnd_ok, if_pos (show acc.length < line by omega), bnd_ok]
        rw [ih (acc ++ [g y]) (fun z hz => hm z (by simp [hz])) (by simp; omega)]
        simp [hp]
      | false =>
        simp only [Bool.false_eq_true, if_false, bnd_ok]
        rw [ih acc (fun z hz => hm z (by simp [hz])) (by omega)]
        simp [hp]
  show lcFix _ _ _ _ (zs.map fun z => .tup [f z, f2 z]) [] S = _
  rw [key zs [] (fun _ h => h) (by simpa using hl)]
  simp
end
/-- a comprehension over a cell's list -/
theorem lcLoc_fix {set : W → Env → Store → Res Env} {tst : Env → Store → Res Bool} {elt : Env → Store → Res W} {η : Env} {S : Store} {l : Nat} {ys : List D} {zs : List D} (h : S[l]? = some (.lst ys)) (hp : ∀ y ∈ ys, ∀ acc acc' S', lcTurn set tst elt η y acc S = .ok acc' S' → S' = S)
    (hf : lcFix set tst elt η ys [] S = .ok zs S) : lcSrc set tst elt η (.loc l ys.length) S = .ok zs S := by
  have key : ∀ (n i : Nat) (acc : List D), i + n = ys.length → lcFix set tst elt η (ys.drop i) acc S = .ok zs S → lcLoc set tst elt η l n i acc S = .ok zs S := by
    intro n
    induction n with
    | zero =>
      intro i acc hi hf
      rw [List.drop_of_length_le (by omega), lcFix] at hf
      rw [lcLoc, h]
      simp only
      rw [if_pos (by omega)]
      exact hf
    | succ n ih =>
      intro i acc hi hf
      have hlt : i < ys.length := by omega
      rw [List.drop_eq_getElem_cons hlt, lcFix] at hf
      rw [lcLoc, h]
      simp only [List.getElem?_eq_getElem hlt]
      cases e : lcTurn set tst elt η ys[i] acc S with
      | ok a S' =>
        have := hp _ (List.getElem_mem hlt) _ _ _ e
        subst this
        rw [e, Res.bind_ok] at hf
        rw [Res.bind_ok]
        exact ih (i + 1) a (by omega) hf
      | exc _ _ _ => rw [e] at hf; exact absurd hf (by simp)
      | stk => rw [e] at hf; exact absurd hf (by simp)
  exact key ys.length 0 [] (by omega) (by simpa using hf)
theorem lcMapL {C : Ctx} {η : Env} {S : Store} {α : Type} {i l : Nat} {e : IE} (f g : α → D) {zs : List α} (h : S[l]? = some (.lst (zs.map f))) (hl : zs.length ≤ line) (hi : i < η.length) (he : ∀ z ∈ zs, (evalP C e).1 (η.set i (some (.d (f z)))) S = .ok (.d (g z)) S) :
    lcSrc (setT C (.nm i)) (evalC C .no) (evalP C e).1 η (.loc l zs.length) S = .ok (zs.map g) S := by
  have h2 := lcMap (C := C) (η := η) (S := S) f g hl hi he
  have h3 := lcLoc_fix (set := setT C (.nm i)) (tst := evalC C .no) (elt := (evalP C e).1) (η := η) h ?_ h2
  · rw [List.length_map] at h3
    exact h3
  · intro y hy acc acc' S' ht
    obtain ⟨z, hz, rfl⟩ := List.mem_map.mp hy
    rw [lcTurn] at ht
    simp only [bind_bnd] at ht
    rw [st_nm, if_pos hi, bnd_ok, ec_no] at ht
    simp only [Res.bind_ok, bnd_ok, if_true] at ht
    rw [he z hz, bnd_ok, toD_d, bnd_ok] at ht
    by_cases hc : acc.length < line
    · rw [if_pos hc] at ht
      injection ht with h1 h2
      exact h2.symm
    · rw [if_neg hc] at ht
      exact absurd ht (by simp)
section
variable {set : W → Env → Store → Res Env} {body : Env → Store → Res Flow} {α β : Type}
/-- a loop as a fold -/
theorem Tot.forF (f : α → D) (step : β → α → β) (I : β → Env → Store → Prop) {all : List α} (hs : ∀ z ∈ all, ∀ b η S, I b η S → Tot ((set (.d (f z)) η S).bnd fun η1 S1 => body η1 S1) fun fl S' => ∃ η', fl = .nx η' ∧ I (step b z) η' S') :
    ∀ (zs : List α) (b : β) (η : Env) (S : Store), (∀ z ∈ zs, z ∈ all) → I b η S → Tot (forFix set body (zs.map f) η S) fun fl S' => ∃ η', fl = .nx η' ∧ I (zs.foldl step b) η' S'
  | [], b, η, S, _, h => by simp [forFix]; exact h
  | z :: zs, b, η, S, hm, h => by
    have h1 := hs z (hm z (by simp)) b η S h
    rw [List.map_cons, forFix]
    simp only [bind_bnd]
    rw [Tot_noExc_bind]
    cases e : set (.d (f z)) η S with
    | ok η1 S1 =>
      rw [e, bnd_ok] at h1
      rw [bnd_ok]
      refine h1.seq ?_
      rintro _ S2 ⟨η2, rfl, i2⟩
      exact Tot.forF f step I hs zs (step b z) η2 S2 (fun y hy => hm y (by simp [hy])) i2
    | exc _ _ _ => rw [e] at h1; exact h1.h.elim
    | stk => rw [e] at h1; exact h1.h.elim
/-- a loop as a fold, by an invariant over what is left -/
theorem Tot.forR (f : α → D) (step : β → α → β) (I : List α → β → Env → Store → Prop) (hs : ∀ z zs b η S, I (z :: zs) b η S → Tot ((set (.d (f z)) η S).bnd fun η1 S1 => body η1 S1) fun fl S' => ∃ η', fl = .nx η' ∧ I zs (step b z) η' S') :
    ∀ (zs : List α) (b : β) (η : Env) (S : Store), I zs b η S → Tot (forFix set body (zs.map f) η S) fun fl S' => ∃ η', fl = .nx η' ∧ I [] (zs.foldl step b) η' S'
  | [], b, η, S, h => by simp [forFix]; exact h
  | z :: zs, b, η, S, h => by
    have h1 := hs z zs b η S h
    rw [List.map_cons, forFix]
    simp only [bind_bnd]
    rw [Tot_noExc_bind]
    cases e : set (.d (f z)) η S with
    | ok η1 S1 =>
      rw [e, bnd_ok] at h1
      rw [bnd_ok]
      refine h1.seq ?_
      rintro _ S2 ⟨η2, rfl, i2⟩
      exact Tot.forR f step I hs zs (step b z) η2 S2 i2
    | exc _ _ _ => rw [e] at h1; exact h1.h.elim
    | stk => rw [e] at h1; exact h1.h.elim
/-- a loop that asks all -/
theorem Tot.forA (f : α → D) (p : α → Bool) (x : W) (I : Env → Store → Prop) {all : List α} (hs : ∀ z ∈ all, ∀ η S, I η S → Tot ((set (.d (f z)) η S).bnd fun η1 S1 => body η1 S1) fun fl S' => if p z = true then ∃ η', (fl = .nx η' ∨ fl = .cont η') ∧ I η' S' else fl = .ret x ∧ ∃ η', I η' S') :
    ∀ (zs : List α) (η : Env) (S : Store), (∀ z ∈ zs, z ∈ all) → I η S → Tot (forFix set body (zs.map f) η S) fun fl S' => if zs.all p = true then ∃ η', fl = .nx η' ∧ I η' S' else fl = .ret x ∧ ∃ η', I η' S'
  | [], η, S, _, h => by simp [forFix]; exact h
  | z :: zs, η, S, hm, h => by
    have h1 := hs z (hm z (by simp)) η S h
    rw [List.map_cons, forFix]
    simp only [bind_bnd]
    rw [Tot_noExc_bind]
    cases e : set (.d (f z)) η S with
    | ok η1 S1 =>
      rw [e, bnd_ok] at h1
      rw [bnd_ok]
      refine h1.seq ?_
      intro fl S2 h2
      cases hp : p z with
      | true =>
        rw [hp, if_pos rfl] at h2
        obtain ⟨η2, hfl, i2⟩ := h2
        have ih := Tot.forA f p x I hs zs η2 S2 (fun y hy => hm y (by simp [hy])) i2
        rw [List.all_cons, hp, Bool.true_and]
        rcases hfl with rfl | rfl <;> exact ih
      | false =>
        rw [hp] at h2
        simp only [Bool.false_eq_true, if_false] at h2
        obtain ⟨rfl, i2⟩ := h2
        simp [hp]
        exact i2
    | exc _ _ _ => rw [e] at h1; exact h1.h.elim
    | stk => rw [e] at h1; exact h1.h.elim
end
theorem ixN_nat {n k : Nat} (h : k < n) : L2.ixN n (k : Int) = some k := by
  unfold L2.ixN
  simp [h]
/-- a def whose end is a thing told; what it made for itself is let go -/
theorem runDT {P : Prog} {fu n f : Nat} {fd : FnD} {ws : List W} {S : Store} {x : D} (h1 : P.fns[f]? = some fd) (h2 : ws.length = fd.np) (hk : fd.keep = false) (hS : belows S.length S = true)
    (h : Tot (execSs ⟨callF P fu n, P, fu⟩ fd.body (startE fd.N.length ws) S) fun fl S' => fl = .ret (.d x) ∧ ∃ L, S' = S ++ L) : callF P fu (n + 1) f ws S = .ok (.d x) S := by
  rw [runT h1 h2]
  obtain ⟨fl, S', e, rfl, L, rfl⟩ := h.ex
  rw [e, hk]
  simp [finish, close, hS, freeze]
/-- a def that ends with a new list -/
theorem runDL {P : Prog} {fu n f : Nat} {fd : FnD} {ws : List W} {S : Store} {xs : List D} (h1 : P.fns[f]? = some fd) (h2 : ws.length = fd.np) (hk : fd.keep = false) (hS : belows S.length S = true)
    (h : Tot (execSs ⟨callF P fu n, P, fu⟩ fd.body (startE fd.N.length ws) S) fun fl S' => ∃ l L, fl = .ret (.loc (S.length + l)) ∧ S' = S ++ L ∧ L[l]? = some (.lst xs)) : callF P fu (n + 1) f ws S = .ok (.d (.lst xs)) S := by
  rw [runT h1 h2]
  obtain ⟨fl, S', e, l, L, rfl, rfl, hl⟩ := h.ex
  rw [e, hk]
  have h3 : ¬ S.length + l < S.length := by omega
  have h4 : (S ++ L)[S.length + l]? = some (.lst xs) := by
    rw [List.getElem?_append_right (by omega), Nat.add_sub_cancel_left]
    exact hl
  simp [finish, close, hS, freeze, h3, h4, cellD]
@[simp] theorem at_len {S : Store} {c : Cell} {L : Store} : (S ++ c :: L)[S.length]? = some c := by simp
@[simp] theorem at_len1 {S : Store} {c d : Cell} {L : Store} : (S ++ c :: d :: L)[S.length + 1]? = some d := by simp
@[simp] theorem set_len {S : Store} {c c' : Cell} {L : Store} : (S ++ c :: L).set S.length c' = S ++ c' :: L := by simp
@[simp] theorem set_len1 {S : Store} {c d d' : Cell} {L : Store} : (S ++ c :: d :: L).set (S.length + 1) d' = S ++ c :: d' :: L := by
  rw [List.set_append_right _ _ (by omega)]
  rw [show S.length + 1 - S.length = 1 by omega]
  rfl
theorem belows_lst {S : Store} {L : Store} (hS : belows S.length S = true) (hL : ∀ c ∈ L, ∃ xs, c = .lst xs) : belows (S ++ L).length (S ++ L) = true := by
  simp only [belows, List.all_append, Bool.and_eq_true, List.all_eq_true] at *
  refine ⟨fun c hc => ?_, fun c hc => ?_⟩
  · have h1 := hS c hc
    cases c with
    | lsw ws =>
      simp only [cellBelow, List.all_eq_true] at *
      intro w hw
      have := h1 w hw
      cases w <;> simp_all [wBelow]
      omega
    | ins k fs =>
      simp only [cellBelow, List.all_eq_true] at *
      intro w hw
      have := h1 w hw
      rcases w with ⟨i, w⟩
      cases w <;> simp_all [wBelow]
      omega
    | _ => rfl
  · obtain ⟨xs, rfl⟩ := hL c hc
    rfl
theorem allB_all {α : Type} (p : α → Bool) (xs : List α) {g : α → D} (h : ∀ x ∈ xs, g x = .bl (p x)) : allB (xs.map g) = some (xs.all p) := by
  rw [← allB_map]
  congr 1
  exact List.map_congr_left h
/-- it goes on, and so -/
def TQ (P : Env → Store → Prop) (_u : Tag P := Tag.mk) : Flow → Store → Prop := fun f S' => ∃ η', f = .nx η' ∧ P η' S'
theorem TQ.mk {P : Env → Store → Prop} {u : Tag P} {η : Env} {S : Store} (h : P η S) : TQ P u (.nx η) S := ⟨η, rfl, h⟩
theorem Tot.st {C : Ctx} {s : IS} {ss : ISs} {η : Env} {S : Store} {Q : Flow → Store → Prop} (P : Env → Store → Prop) (h : Tot (execS C s η S) (TQ P)) (k : ∀ η' S', P η' S' → Tot (execSs C ss η' S') Q) : Tot (execSs C (.cons s ss) η S) Q := by
  rw [ss_cons']
  refine h.seq ?_
  rintro _ S' ⟨η', rfl, h⟩
  exact k η' S' h
theorem Tot.se {C : Ctx} {s : IS} {ss : ISs} {η η' : Env} {S : Store} {Q : Flow → Store → Prop} (h : execS C s η S = .ok (.nx η') S) (k : Tot (execSs C ss η' S) Q) : Tot (execSs C (.cons s ss) η S) Q := by
  rw [ss_cons', h]
  exact k
end RI
/-! PW: running the evaluator by simp, the nodes of session 4 (dicts, sorted, reversed, methods). -/
namespace RI
section
variable {C : Ctx} {η : Env} {S : Store}
@[simp] theorem ev_meth {e m es} : (evalP C (.meth e m es)).1 η S = ((evalP C e).1 η S).bnd fun o S1 => match methOf C.P m o es.len S1 with
    | some f => (evalEs C es η S1).bnd fun ws S2 => C.call f (o :: ws) S2
    | none => .stk := id rfl
@[simp] theorem ev_meth_t {e m es} : (evalP C (.meth e m es)).2 η S = ((evalP C (.meth e m es)).1 η S).bnd fun x S1 => ofO (truthy x S1) S1 := id rfl
@[simp] theorem ev_dix {a b} : (evalP C (.dix a b)).1 η S = ((evalP C a).1 η S).bnd fun x S1 => ((evalP C b).1 η S1).bnd fun y S2 => match dgetD x y S2 with
    | some (some z) => .ok (.d z) S2
    | _ => .stk := id rfl
@[simp] theorem ev_dix_t {a b} : (evalP C (.dix a b)).2 η S = ((evalP C (.dix a b)).1 η S).bnd fun x S1 => ofO (truthy x S1) S1 := id rfl
@[simp] theorem ev_din {n a b} : (evalP C (.din n b a)).1 η S = ((evalP C b).1 η S).bnd fun y S1 => ((evalP C a).1 η S1).bnd fun x S2 => match dgetD x y S2 with
    | some o => .ok (.d (.bl (if n then !o.isSome else o.isSome))) S2
    | none => .stk := id rfl
@[simp] theorem ev_din_t {n a b} : (evalP C (.din n b a)).2 η S = ((evalP C (.din n b a)).1 η S).bnd fun x S1 => ofO (truthy x S1) S1 := id rfl
@[simp] theorem ev_dget {a b c} : (evalP C (.dget a b c)).1 η S = ((evalP C a).1 η S).bnd fun x S1 => if (dicOf x S1).isSome = true then ((evalP C b).1 η S1).bnd fun y S2 => ((evalP C c).1 η S2).bnd fun z S3 => match dgetD x y S3, z with
    | some o, .d z => .ok (.d (o.getD z)) S3
    | _, _ => .stk else .stk := id rfl
@[simp] theorem ev_dget_t {a b c} : (evalP C (.dget a b c)).2 η S = ((evalP C (.dget a b c)).1 η S).bnd fun x S1 => ofO (truthy x S1) S1 := id rfl
@[simp] theorem ev_dkeys {a} : (evalP C (.dkeys a)).1 η S = ((evalP C a).1 η S).bnd fun x S1 => match dicOf x S1 with
    | some kvs => .ok (.d (.lst (kvs.map (·.1)))) S1
    | none => .stk := id rfl
@[simp] theorem ev_dkeys_t {a} : (evalP C (.dkeys a)).2 η S = ((evalP C (.dkeys a)).1 η S).bnd fun x S1 => ofO (truthy x S1) S1 := id rfl
@[simp] theorem ev_dlen {a} : (evalP C (.dlen a)).1 η S = ((evalP C a).1 η S).bnd fun x S1 => match dicOf x S1 with
    | some kvs => .ok (.d (.int kvs.length)) S1
    | none => .stk := id rfl
@[simp] theorem ev_dlen_t {a} : (evalP C (.dlen a)).2 η S = ((evalP C (.dlen a)).1 η S).bnd fun x S1 => ofO (truthy x S1) S1 := id rfl
@[simp] theorem ev_srt {a} : (evalP C (.srt a)).1 η S = ((evalP C a).1 η S).bnd fun x S1 => match (lstOf x S1).bind intsOf with
    | some ns => if ns.length < 64 then .ok (.d (.lst ((sortI ns).map .int))) S1 else .stk
    | none => .stk := id rfl
@[simp] theorem ev_srt_t {a} : (evalP C (.srt a)).2 η S = ((evalP C (.srt a)).1 η S).bnd fun x S1 => ofO (truthy x S1) S1 := id rfl
@[simp] theorem ev_rev {a} : (evalP C (.rev a)).1 η S = ((evalP C a).1 η S).bnd fun x S1 => match x with
    | .d (.tup xs) => if xs.length ≤ 1000 then .ok (.d (.tup xs.reverse)) S1 else .stk
    | .d (.lst xs) => if xs.length ≤ 1000 then .ok (.d (.lst xs.reverse)) S1 else .stk
    | _ => .stk := id rfl
@[simp] theorem ev_rev_t {a} : (evalP C (.rev a)).2 η S = ((evalP C (.rev a)).1 η S).bnd fun x S1 => ofO (truthy x S1) S1 := id rfl
@[simp] theorem ev_kget {k a d} : (evalP C (.kget k a d)).1 η S = ((evalP C a).1 η S).bnd fun x S1 => match x with
    | .d (.str s) => ((evalP C d).1 η S1).bnd fun z S2 => match z, C.P.tabs[k]? with
      | .d z, some T => .ok (.d ((tabD T s).getD z)) S2
      | _, _ => .stk
    | _ => .stk := id rfl
@[simp] theorem ev_kget_t {k a d} : (evalP C (.kget k a d)).2 η S = ((evalP C (.kget k a d)).1 η S).bnd fun x S1 => ofO (truthy x S1) S1 := id rfl
@[simp] theorem ev_dpr {a} : (evalP C (.dpr a)).1 η S = ((evalP C a).1 η S).bnd fun x S1 => match (lstOf x S1).bind (dofP []) with
    | some kvs => .ok (.d (.dic kvs)) S1
    | none => .stk := id rfl
@[simp] theorem ev_lzip {a b} : (evalP C (.lzip a b)).1 η S = ((evalP C a).1 η S).bnd fun x S1 => ((evalP C b).1 η S1).bnd fun y S2 => match x, y with
    | .d (.lst xs), .d (.lst ys) => .ok (.d (.lst ((xs.zip ys).map fun p => .tup [p.1, p.2]))) S2
    | _, _ => .stk := id rfl
@[simp] theorem ev_dic1 {a b} : (evalP C (.dic1 a b)).1 η S = ((evalP C a).1 η S).bnd fun x S1 => ((evalP C b).1 η S1).bnd fun y S2 => match x with
    | .d (.int i) => (toD y S2).bnd fun z S3 => .ok (.d (.dic [(.int i, z)])) S3
    | _ => .stk := id rfl
@[simp] theorem ev_tnew : (evalP C .tnew).1 η S = .ok (.loc S.length) (S ++ [.dtt []]) := id rfl
@[simp] theorem ev_tix {a b} : (evalP C (.tix a b)).1 η S = ((evalP C a).1 η S).bnd fun x S1 => ((evalP C b).1 η S1).bnd fun y S2 => match tgetD x y S2 with
    | some (some z) => .ok (.d z) S2
    | _ => .stk := id rfl
@[simp] theorem ev_tin {neg b a} : (evalP C (.tin neg b a)).1 η S = ((evalP C b).1 η S).bnd fun y S1 => ((evalP C a).1 η S1).bnd fun x S2 => match tgetD x y S2 with
    | some o => .ok (.d (.bl (if neg then !o.isSome else o.isSome))) S2
    | none => .stk := id rfl
@[simp] theorem st_tsub {o i w} : setT C (.tsub o i) w η S = ((evalP C o).1 η S).bnd fun x S1 => ((evalP C i).1 η S1).bnd fun k S2 => (setTic x k w S2).bnd fun _ S3 => .ok η S3 := id rfl
@[simp] theorem ev_mkx {c es} : (evalP C (.mkx c es)).1 η S = (evalEs C es η S).bnd fun ws S1 => match C.P.cls[c]? with
    | some k => match k.exc with
      | some fs => match fieldsOf fs ws with
        | some ds => .ok (.d (.obj c ds)) S1
        | none => .stk
      | none => .stk
    | none => .stk := id rfl
@[simp] theorem ev_fle {e f} : (evalP C (.fle e f)).1 η S = ((evalP C e).1 η S).bnd fun x S1 => match x with
    | .d (.obj c fs) => if excC C.P c = true then (ofO (lookN f fs) S1).bnd fun z S2 => .ok (.d z) S2 else .stk
    | _ => .stk := id rfl
@[simp] theorem ev_ise {e t} : (evalP C (.ise e t)).1 η S = ((evalP C e).1 η S).bnd fun x S1 => match x with
    | .d (.obj c _) => if excC C.P c = true then .ok (.d (.bl (tyIs C.P (.cls c) t))) S1 else .stk
    | _ => .stk := id rfl
@[simp] theorem ev_ise_t {e t} : (evalP C (.ise e t)).2 η S = ((evalP C (.ise e t)).1 η S).bnd fun x S1 => ofO (truthy x S1) S1 := id rfl
@[simp] theorem ev_dnew : (evalP C .dnew).1 η S = .ok (.loc S.length) (S ++ [.dct []]) := id rfl
end
section
variable {C : Ctx} {η : Env} {S : Store}
@[simp] theorem cm_nes {s t : List Nat} : cmpW C .ne (.d (.str s)) (.d (.str t)) S = .ok (.d (.bl (!decide (s = t)))) S := by
  have e : eqOwn C (.d (.str s)) (.d (.str t)) S = none := id rfl
  unfold cmpW
  simp only [e, cmpD, eqD, ofO_some, Res.bind_ok, bnd_ok, Option.map_some]
@[simp] theorem ev_isb {b a} : (evalP C (.isb b a)).1 η S = ((evalP C a).1 η S).bnd fun x S1 => match x with
    | .d (.bl k) => .ok (.d (.bl (k == b))) S1
    | _ => .stk := id rfl
@[simp] theorem ev_isb_t {b a} : (evalP C (.isb b a)).2 η S = ((evalP C (.isb b a)).1 η S).bnd fun x S1 => ofO (truthy x S1) S1 := id rfl
@[simp] theorem i_rng2' {a b} : evalI C (.rng2 a b) η S = ((evalP C a).1 η S).bnd fun w S1 => ((evalP C b).1 η S1).bnd fun u S2 => match w, u with
    | .d (.int i), .d (.int n) => if (-lineR ≤ i ∧ i < lineR) ∧ -lineR ≤ n ∧ n < lineR then .ok (.fix ((List.range (n - i).toNat).map fun (k : Nat) => .int (i + k))) S2 else .stk
    | _, _ => .stk := id rfl
theorem in_strs {c : List Nat} {ls : List (List Nat)} : cmpW C .inn (.d (.str c)) (.d (.tup (ls.map .str))) S = .ok (.d (.bl (decide (c ∈ ls)))) S := by
  have h2 : (ls.map D.str).all flatD = true := by simp [flatD]
  have h3 : inD (.d (.str c)) (.d (.tup (ls.map .str))) S = some (decide (c ∈ ls)) := by
    have e : inD (.d (.str c)) (.d (.tup (ls.map .str))) S = pyIn .tup (.str c) (ls.map .str) := by
      rcases c with _ | ⟨a, _ | ⟨b, r⟩⟩ <;> rfl
    rw [e]
    unfold pyIn
    rw [h2, show flatD (D.str c) = true from rfl]
    simp only [Bool.and_self, if_true]
    congr 1
    rw [Bool.eq_iff_iff]
    simp [eqF]
  unfold cmpW
  simp only [cmpD, h3, ofO_some, Res.bind_ok, bnd_ok]
@[simp] theorem in_str2 {c a b : List Nat} : cmpW C .inn (.d (.str c)) (.d (.tup [.str a, .str b])) S = .ok (.d (.bl (decide (c = a) || decide (c = b)))) S := by
  have h := in_strs (C := C) (S := S) (c := c) (ls := [a, b])
  simpa using h
theorem atJ_nat {α : Type} {xs : List α} {k : Nat} {x : α} (h : xs[k]? = some x) : L2.atI xs (k : Int) = some x := by
  have hk : k < xs.length := by
    have := List.getElem?_eq_some_iff.mp h
    exact this.1
  unfold L2.atI
  rw [ixN_nat hk]
  exact h
theorem atJ_map {α β : Type} (f : α → β) {xs : List α} {k : Nat} {x : α} (h : xs[k]? = some x) : L2.atI (xs.map f) (k : Int) = some (f x) := atJ_nat (by simp [h])
end
end RI
/-! QP: the pool of draws of the laws. -/
namespace QP
open RI
abbrev poolb0 : ISs := (.cons (.asg (.nm 1) (.bin .mod (.bi .int (.cons (.bin .add (.bin .add (.bin .mul (.var 1) (.int 48271)) (.bin .mod (.bi .int (.cons (.var 2) .nil)) (.int 2147483629))) (.int 11)) .nil)) (.int 2147483647))) .nil)
abbrev poolc0 : IE := .lc (.bi .abs (.cons (.var 2) .nil)) [2] (.nm 2) (.seq (.sl (.var 0) .no (.yes (.int 63)))) (.yes (.cmp .ge (.bi .abs (.cons (.var 2) .nil)) (.bin .pow (.int 10) (.int 18))))
abbrev pools0 : IS := (.asg (.nm 1) (.bin .add (.bin .add (.bin .mod (.bi .int (.cons (.bi .sum (.cons (.sl (.var 0) .no (.yes (.int 1))) .nil)) .nil)) (.int 1000003)) (.bi .len (.cons (.var 0) .nil))) (.int 1)))
abbrev pools1 : IS := (.for_ (.nm 2) (.seq (.sl (.var 0) .no (.yes (.int 63)))) poolb0)
abbrev pools2 : IS := (.ret (.lsw (.cons (.var 1) (.cons (.int 0) (.cons (.thaw (poolc0)) .nil)))))
def pool : FnD := { name := "_law_pool", N := ["script", "seed", "cell"], np := 1, keep := true, top := true, body := (.cons pools0 (.cons pools1 (.cons pools2 .nil))) }
abbrev draws0 : IS := (.asg (.sub (.var 0) (.int 1)) (.bin .add (.ix (.var 0) (.int 1)) (.int 1)))
abbrev draws1 : IS := (.asg (.nm 2) (.ix (.var 0) (.int 2)))
abbrev draws2 : IS := (.ife (.cmp .gt (.bi .len (.cons (.var 2) .nil)) (.int 0)) (.cons (.asg (.nm 4) (.bin .mod (.bi .int (.cons (.ix (.var 2) (.int 0)) .nil)) (.var 1))) (.cons (.asg (.sub (.var 2) (.int 0)) (.bin .fdiv (.bi .int (.cons (.ix (.var 2) (.int 0)) .nil)) (.var 1))) (.cons (.ife (.cmp .eq (.ix (.var 2) (.int 0)) (.int 0)) (.cons (.expr (.bm (.var 2) .pop (.cons (.int 0) .nil))) .nil) .nil) (.cons (.ret (.var 4)) .nil)))) .nil)
abbrev draws3 : IS := (.asg (.nm 3) (.bin .mod (.bi .int (.cons (.bin .mul (.bin .add (.ix (.var 0) (.int 0)) (.bin .mul (.int 7919) (.ix (.var 0) (.int 1)))) (.int 48271)) .nil)) (.int 2147483647)))
abbrev draws4 : IS := (.asg (.nm 3) (.bin .mod (.bi .int (.cons (.bin .mul (.var 3) (.bin .add (.bin .fdiv (.var 3) (.int 1009)) (.int 69621))) .nil)) (.int 2147483647)))
abbrev draws5 : IS := (.asg (.nm 3) (.bin .mod (.bi .int (.cons (.bin .mul (.var 3) (.bin .add (.bin .fdiv (.var 3) (.int 2003)) (.int 40692))) .nil)) (.int 2147483399)))
abbrev draws6 : IS := (.ret (.bin .mod (.bi .int (.cons (.bin .fdiv (.var 3) (.int 16)) .nil)) (.var 1)))
def draw (v : PySem.Str) : FnD := { name := "_law_draw", N := ["pool", "many", "cells", v, "digit"], np := 2, keep := false, top := true, body := (.cons draws0 (.cons draws1 (.cons draws2 (.cons draws3 (.cons draws4 (.cons draws5 (.cons draws6 .nil))))))) }
structure Po where
  cs : List Int
  seed : Int
  cnt : Int
def Po.st (p : Po) : Store := [.lst (p.cs.map .int), .lsw [.d (.int p.seed), .d (.int p.cnt), .loc 0]]
structure Po.Ok (N : Nat) (p : Po) : Prop where
  s0 : 0 ≤ p.seed
  s1 : p.seed < 2147483647
  c0 : 0 ≤ p.cnt
  c1 : p.cnt ≤ N
  ln : p.cs.length ≤ 63
theorem Po.Ok.up {N M : Nat} {p : Po} (h : p.Ok N) (l : N ≤ M) : p.Ok M := ⟨h.s0, h.s1, h.c0, by have := h.c1; omega, h.ln⟩
theorem bits_small {i j : Int} (h1 : i.natAbs < 2 ^ 400) (h2 : j.natAbs < 2 ^ 400) : bitsOk i j = true := by
  have a : i.natAbs.log2 ≤ 400 := by
    by_cases e : i.natAbs = 0
    · rw [e]; decide
    · exact Nat.le_of_lt ((Nat.log2_lt e).mpr h1)
  have b : j.natAbs.log2 ≤ 400 := by
    by_cases e : j.natAbs = 0
    · rw [e]; decide
    · exact Nat.le_of_lt ((Nat.log2_lt e).mpr h2)
  simp only [bitsOk, decide_eq_true_eq]
  omega
theorem lt400 {i : Int} {b : Nat} (h0 : 0 ≤ i) (h1 : i < b) (hb : b ≤ 2 ^ 400) : i.natAbs < 2 ^ 400 := Nat.lt_of_lt_of_le (by omega) hb
theorem mul_nn {a b : Int} {m n : Nat} (a0 : 0 ≤ a) (a1 : a < m) (b0 : 0 ≤ b) (b1 : b < n) : 0 ≤ a * b ∧ a * b < (m * n : Nat) := by
  refine ⟨Int.mul_nonneg a0 b0, ?_⟩
  have h1 : a * b ≤ a * (n : Int) := Int.mul_le_mul_of_nonneg_left (by omega) a0
  have h2 : a * (n : Int) < (m : Int) * n := Int.mul_lt_mul_of_pos_right a1 (by omega)
  have h3 : ((m * n : Nat) : Int) = (m : Int) * n := by simp
  rw [h3]
  omega
theorem fmod_rng (a : Int) {m : Int} (h : 0 < m) : 0 ≤ a.fmod m ∧ a.fmod m < m := ⟨Int.fmod_nonneg_of_pos a h, Int.fmod_lt_of_pos a h⟩
theorem fdiv_rng {a : Int} {m : Int} {b : Nat} (h : 0 < m) (a0 : 0 ≤ a) (a1 : a < b) : 0 ≤ a.fdiv m ∧ a.fdiv m < b := by
  rw [Int.fdiv_eq_ediv_of_nonneg a (by omega)]
  refine ⟨Int.ediv_nonneg a0 (by omega), ?_⟩
  have := Int.ediv_le_self m a0
  omega
/-- the last steps of a draw -/
theorem mixed {N : Nat} {p : Po} (h : p.Ok N) (hN : N < 1000000000) : bitsOk 7919 (p.cnt + 1) = true ∧ bitsOk (p.seed + 7919 * (p.cnt + 1)) 48271 = true ∧
    ∀ a : Int, 0 ≤ a → a < 2147483647 → bitsOk a (a.fdiv 1009 + 69621) = true ∧ bitsOk a (a.fdiv 2003 + 40692) = true := by
  obtain ⟨s0, s1, c0, c1, _⟩ := h
  have big : (10 : Nat) ^ 30 ≤ 2 ^ 400 := by decide
  refine ⟨bits_small (by decide) (lt400 (b := 10 ^ 30) (by omega) (by omega) big), bits_small (lt400 (b := 10 ^ 30) (by omega) (by omega) big) (by decide), fun a a0 a1 => ?_⟩
  have q1 := fdiv_rng (m := 1009) (b := 2147483647) (by decide) a0 (by omega)
  have q2 := fdiv_rng (m := 2003) (b := 2147483647) (by decide) a0 (by omega)
  exact ⟨bits_small (lt400 (b := 10 ^ 30) a0 (by omega) big) (lt400 (b := 10 ^ 30) (by omega) (by omega) big), bits_small (lt400 (b := 10 ^ 30) a0 (by omega) big) (lt400 (b := 10 ^ 30) (by omega) (by omega) big)⟩
section
variable {P : Prog} {fu n i N : Nat} {p : Po} {T : Store} {m : Int}
theorem sok_pool {T : Store} (hT : ∀ k, belows k T = true) : Sok (2 + T.length) (p.st ++ T) := by
  refine ⟨?_, by simp [Po.st]; omega⟩
  rw [List.take_of_length_le (by simp [Po.st]; omega)]
  have := hT (2 + T.length)
  simp only [belows, List.all_append, Bool.and_eq_true] at this ⊢
  refine ⟨?_, this⟩
  simp [Po.st, cellBelow, wBelow]
  omega
theorem draw_ok {v : PySem.Str} (hP : P.fns[i]? = some (draw v)) (h : p.Ok N) (hN : N < 1000000000) (hm : 0 < m) (hm2 : m < 18446744073709551616) (hT : ∀ k, belows k T = true) {Q : W → Store → Prop}
    (hQ : ∀ (r : Int) (p' : Po), 0 ≤ r → r < m → p'.Ok (N + 1) → Q (.d (.int r)) (p'.st ++ T)) : Tot (callF P fu (n + 1) i [.loc 1, .d (.int m)] (p.st ++ T)) Q := by
  obtain ⟨b1, b2, b3⟩ := mixed h hN
  obtain ⟨s0, s1, c0, c1, ln⟩ := h
  have hfd := fdB_pos hm hm2
  have hl : (p.st ++ T).length = 2 + T.length := by simp [Po.st]; omega
  rw [runT (fd := draw v) hP rfl]
  generalize (Ctx.mk (callF P fu n) P fu) = C
  refine Tot.fin ?_
  rw [hl]
  have fin : ∀ (r : Int) (p' : Po), 0 ≤ r → r < m → p'.Ok (N + 1) → Sok (2 + T.length) (p'.st ++ T) ∧ Q (.d (.int r)) ((p'.st ++ T).take (2 + T.length)) := fun r p' r0 r1 k => ⟨sok_pool hT, by
    rw [List.take_of_length_le (by simp [Po.st]; omega)]
    exact hQ r p' r0 r1 k⟩
  have nz : m ≠ 0 := by omega
  obtain ⟨cs, seed, cnt⟩ := p
  simp only at s0 s1 c0 c1 ln b1 b2 b3
  have ixN1 : L2.ixN 3 1 = some 1 := by decide
  have ixN0 : ∀ k : Nat, L2.ixN (k + 1) 0 = some 0 := fun k => by
    unfold L2.ixN
    simp
    try omega
  cases cs with
  | nil =>
    have r1 := fmod_rng ((seed + 7919 * (cnt + 1)) * 48271) (m := 2147483647) (by decide)
    have r2 := fmod_rng ((((seed + 7919 * (cnt + 1)) * 48271).fmod 2147483647) * ((((seed + 7919 * (cnt + 1)) * 48271).fmod 2147483647).fdiv 1009 + 69621)) (m := 2147483647) (by decide)
    simp [draw, startE, getV, ixN1, Po.st, b1, b2, (b3 _ r1.1 r1.2).1, (b3 _ r2.1 r2.2).2, nz]
    exact fin _ ⟨[], seed, cnt + 1⟩ (fmod_rng _ hm).1 (fmod_rng _ hm).2 ⟨s0, s1, by simp only; omega, by simp only; omega, by simp⟩
  | cons c cs =>
    simp only [List.length_cons] at ln
    have e0 := ixN0 cs.length
    have hr := fmod_rng c hm
    by_cases z : c.fdiv m = 0
    · have := fin _ ⟨cs, seed, cnt + 1⟩ hr.1 hr.2 ⟨s0, s1, by simp only; omega, by simp only; omega, by simp only; omega⟩
      simp [draw, startE, getV, ixN1, e0, Po.st, nz, hfd, z]
      simp [Po.st] at this
      exact this
    · have := fin _ ⟨c.fdiv m :: cs, seed, cnt + 1⟩ hr.1 hr.2 ⟨s0, s1, by simp only; omega, by simp only; omega, by simp only [List.length_cons]; omega⟩
      simp [draw, startE, getV, ixN1, e0, Po.st, nz, hfd, z]
      simp [Po.st] at this
      exact this
theorem pool_ok (hP : P.fns[i]? = some pool) {xs : List Int} (hx : xs.length ≤ 63) {Q : W → Store → Prop} (hQ : ∀ p : Po, p.Ok 0 → Q (.loc 1) p.st) : Tot (callF P fu (n + 1) i [.scr xs] []) Q := by
  rw [runT (fd := pool) hP rfl]
  generalize (Ctx.mk (callF P fu n) P fu) = C
  have hl : xs.length ≤ line := Nat.le_trans hx (by decide)
  have t1 : cut (xs.map D.int) none (some 1) = (xs.take 1).map D.int := by rw [cut_map]; exact congrArg _ (cut_to xs 1)
  have t63 : cut (xs.map D.int) none (some 63) = xs.map D.int := by
    rw [cut_map]
    exact congrArg _ ((cut_to xs 63).trans (List.take_of_length_le hx))
  have s1 : slD (.scr xs) none (some 1) [] = some (.lst ((xs.take 1).map .int)) := by show some (D.lst (cut (xs.map D.int) none (some 1))) = _; rw [t1]
  have r0 := fmod_rng ((xs.take 1).sum) (m := 1000003) (by decide)
  generalize xs.take 1 = y1 at s1 r0
  have s63 : slD (.scr xs) none (some 63) [] = some (.lst (xs.map .int)) := by show some (D.lst (cut (xs.map D.int) none (some 63))) = _; rw [t63]
  have hsum : ∀ ys : List Int, biD .sum [.d (.lst (ys.map .int))] [] = some (.int ys.sum) := fun ys => by
    show (intsOf (ys.map D.int)).map (fun ns => D.int ns.sum) = _
    rw [intsOf_map]; rfl
  have hlen : biD .len [.scr xs] [] = some (.int xs.length) := by simp [biD, seqOf]
  suffices h : Tot (execSs C pool.body (startE pool.N.length [.scr xs]) []) fun f S => f = .ret (.loc 1) ∧ ∃ p : Po, p.Ok 0 ∧ S = p.st by
    obtain ⟨f, S, e, rfl, p, hp, rfl⟩ := h.ex
    rw [e]
    exact ⟨hQ p hp⟩
  simp [pool, startE, getV, s1, hsum, hlen, s63]
  refine Tot.seq (P := fun f S => S = [] ∧ ∃ sd o, f = Flow.nx [some (.scr xs), some (.d (.int sd)), o] ∧ 0 ≤ sd ∧ sd < 2147483647) (Tot.for_ (fun ys η S => S = [] ∧ (∀ y ∈ ys, y ∈ xs.map D.int) ∧ ∃ sd o, η = [some (.scr xs), some (.d (.int sd)), o] ∧ 0 ≤ sd ∧ sd < 2147483647) ?_ ?_ _ _ _ ⟨rfl, fun y hy => hy, _, _, rfl, by omega, by omega⟩) ?_
  · rintro y ys η S ⟨rfl, hy, sd, o, rfl, h0, h1⟩
    obtain ⟨c, _, rfl⟩ := List.mem_map.mp (hy y (by simp))
    have b := bits_small (i := sd) (j := 48271) (lt400 (b := 10 ^ 30) h0 (by omega) (by decide)) (by decide)
    simp [getV, b]
    exact ⟨fun z hz => by simpa using hy z (by simp [hz]), fmod_rng _ (by decide)⟩
  · rintro η S ⟨rfl, _, sd, o, rfl, h0, h1⟩
    exact ⟨rfl, sd, o, rfl, h0, h1⟩
  · rintro f S ⟨rfl, sd, o, rfl, h0, h1⟩
    simp [getV]
    have key := Tot.lcF (set := setT C (.nm 2)) (tst := evalC C (.yes (.cmp .ge (.bi .abs (.cons (.var 2) .nil)) (.bin .pow (.int 10) (.int 18))))) (elt := (evalP C (.bi .abs (.cons (.var 2) .nil))).1) (η := wipeE [some (.scr xs), some (.d (.int sd)), o] [2])
      (fun y => ∃ c : Int, y = .int c) (fun _ S => S = []) (xs := xs.map .int) (by
        rintro x hx k acc S rfl hk hac
        obtain ⟨c, _, rfl⟩ := List.mem_map.mp hx
        by_cases hc : (10 : Int) ^ 18 ≤ (if c < 0 then -c else c)
        · simp [lcTurn, getV, wipeE, ec_yes, hc, hac]
        · simp [lcTurn, getV, wipeE, ec_yes, hc, hac]) (xs.map .int) [] 0 [] (fun _ h => h) (by simp) (by simpa using hl) (by simp) rfl
    simp [s63, lcSrc]
    refine key.seq ?_
    rintro zs S ⟨h2, h3, rfl⟩
    obtain ⟨cs, rfl⟩ := ints_ex h3
    simp
    exact ⟨⟨cs, sd, 0⟩, ⟨h0, h1, by simp, by simp, by simp at h2; simp; omega⟩, rfl⟩
end
end QP
/-! K1: errors made, told apart. -/
namespace K00
open RI QP
variable {fu n : Nat} {S : Store}
/-- the classes, as the law asks for them -/
def cl : List Nat := [1, 14, 15, 12, 25, 27, 2, 3, 4, 5, 6, 7, 8, 9, 10, 11, 13, 16, 17, 18, 19, 20, 21, 22, 23, 24, 26, 28]
def plain : List Nat := [2, 3, 4, 5, 6, 7, 8, 9, 10, 11, 13, 16, 17, 18, 19, 20, 21, 22, 23, 24, 26, 28]
def kindsD (c : Nat) : D := .lst (cl.map fun k => .bl (decide (k = c)))
theorem ty_cl : ∀ c ∈ cl, (∀ k ∈ cl, tyIs Ir.P (.cls c) (.cls k) = decide (k = c)) ∧ excC Ir.P c = true ∧ tyIs Ir.P (.cls c) (.cls 0) = true ∧ tyIs Ir.P (.cls c) .valueError = true := by decide
theorem kinds11 {c : Nat} {fs : List (Nat × D)} (hc : c ∈ cl) (hS : belows S.length S = true) : callF Ir.P fu (n + 1) 11 [.d (.obj c fs)] S = .ok (.d (kindsD c)) S := by
  obtain ⟨h1, h2, _, _⟩ := ty_cl c hc
  refine runD (fd := Ir.f11) rfl rfl rfl hS ?_
  generalize callF Ir.P fu n = cf
  have t : ∀ k, k ∈ cl → tyIs Ir.P (.cls c) (.cls k) = decide (k = c) := h1
  have t1 := t 1 (by decide); have t14 := t 14 (by decide); have t15 := t 15 (by decide); have t12 := t 12 (by decide); have t25 := t 25 (by decide); have t27 := t 27 (by decide)
  have t2 := t 2 (by decide); have t3 := t 3 (by decide); have t4 := t 4 (by decide); have t5 := t 5 (by decide); have t6 := t 6 (by decide); have t7 := t 7 (by decide); have t8 := t 8 (by decide)
  have t9 := t 9 (by decide); have t10 := t 10 (by decide); have t11 := t 11 (by decide); have t13 := t 13 (by decide); have t16 := t 16 (by decide); have t17 := t 17 (by decide); have t18 := t 18 (by decide)
  have t19 := t 19 (by decide); have t20 := t 20 (by decide); have t21 := t 21 (by decide); have t22 := t 22 (by decide); have t23 := t 23 (by decide); have t24 := t 24 (by decide); have t26 := t 26 (by decide); have t28 := t 28 (by decide)
  have l : ∀ m : Nat, m ≤ 100 → m ≤ line := fun m h => Nat.le_trans h (by decide)
  have l7 := l 7 (by decide); have l10 := l 10 (by decide); have l13 := l 13 (by decide); have l16 := l 16 (by decide); have l19 := l 19 (by decide); have l22 := l 22 (by decide); have l25 := l 25 (by decide); have l28 := l 28 (by decide)
  simp [Ir.f11, startE, getV, h2, t1, t2, t3, t4, t5, t6, t7, t8, t9, t10, t11, t12, t13, t14, t15, t16, t17, t18, t19, t20, t21, t22, t23, t24, t25, t26, t27, t28, toDs, toD, l7, l10, l13, l16, l19, l22, l25, l28, kindsD, cl]
theorem mk0 {cf : Nat → List W → Store → Res W} {η : Env} {c : Nat} (h : c ∈ plain) : (evalP ⟨cf, Ir.P, fu⟩ (.mkx c .nil)).1 η S = .ok (.d (.obj c [])) S := by
  have c2 : ∀ c ∈ plain, (Ir.P.cls[c]?.bind fun k => k.exc) = some [] := by decide
  have := c2 c h
  cases e : Ir.P.cls[c]? with
  | none => rw [e] at this; cases this
  | some k =>
    rw [e] at this
    simp only [Option.bind_some] at this
    simp [e, this, fieldsOf]
theorem mk1 {cf : Nat → List W → Store → Res W} {η : Env} {c f : Nat} {x : D} (hc : (Ir.P.cls[c]?.bind fun k => k.exc) = some [f]) (hx : getV η 1 = some (.d x)) : (evalP ⟨cf, Ir.P, fu⟩ (.mkx c (.cons (.var 1) .nil))).1 η S = .ok (.d (.obj c [(f, x)])) S := by
  cases e : Ir.P.cls[c]? with
  | none => rw [e] at hc; cases hc
  | some k =>
    rw [e] at hc
    simp only [Option.bind_some] at hc
    simp [e, hc, fieldsOf, hx]
theorem plain10 (hS : belows S.length S = true) : callF Ir.P fu (n + 1) 10 [] S = .ok (.d (.lst (plain.map fun c => .obj c []))) S := by
  refine runD (fd := Ir.f10) rfl rfl rfl hS ?_
  generalize callF Ir.P fu n = cf
  have m : ∀ (c : Nat) (η : Env) (S : Store), c ∈ plain → (evalP ⟨cf, Ir.P, fu⟩ (.mkx c .nil)).1 η S = .ok (.d (.obj c [])) S := fun c η S h => mk0 h
  have l : ∀ m : Nat, m ≤ 100 → m ≤ line := fun m h => Nat.le_trans h (by decide)
  have l17 := l 17 (by decide); have l22 := l 22 (by decide)
  have m2 := fun η S => m 2 η S (by decide); have m3 := fun η S => m 3 η S (by decide); have m4 := fun η S => m 4 η S (by decide); have m5 := fun η S => m 5 η S (by decide); have m6 := fun η S => m 6 η S (by decide); have m7 := fun η S => m 7 η S (by decide); have m8 := fun η S => m 8 η S (by decide); have m9 := fun η S => m 9 η S (by decide); have m10 := fun η S => m 10 η S (by decide); have m11 := fun η S => m 11 η S (by decide); have m13 := fun η S => m 13 η S (by decide); have m16 := fun η S => m 16 η S (by decide); have m17 := fun η S => m 17 η S (by decide); have m18 := fun η S => m 18 η S (by decide); have m19 := fun η S => m 19 η S (by decide); have m20 := fun η S => m 20 η S (by decide); have m21 := fun η S => m 21 η S (by decide); have m22 := fun η S => m 22 η S (by decide); have m23 := fun η S => m 23 η S (by decide); have m24 := fun η S => m 24 η S (by decide); have m26 := fun η S => m 26 η S (by decide); have m28 := fun η S => m 28 η S (by decide)
  simp [-ev_mkx, Ir.f10, startE, getV, m2, m3, m4, m5, m6, m7, m8, m9, m10, m11, m13, m16, m17, m18, m19, m20, m21, m22, m23, m24, m26, m28, plain, toDs, toD, l17, l22]
/-- the errors with a field: class, field -/
def own : List (Nat × Nat) := [(1, 1), (14, 1), (15, 1), (12, 2), (25, 3), (27, 4)]
theorem made9 {i : Nat} (hi : i < 6) {x : D} (hS : belows S.length S = true) : ∃ c f, own[i]? = some (c, f) ∧ callF Ir.P fu (n + 1) 9 [.d (.int (i : Nat)), .d x] S = .ok (.d (.tup [x, .obj c [(f, x)]])) S := by
  have e0 : ∀ c, c ∈ cl → excC Ir.P c = true := fun c hc => (ty_cl c hc).2.1
  have x1 := e0 1 (by decide); have x14 := e0 14 (by decide); have x15 := e0 15 (by decide); have x12 := e0 12 (by decide); have x25 := e0 25 (by decide); have x27 := e0 27 (by decide)
  have g : ∀ {cf : Nat → List W → Store → Res W} {η : Env} {c f : Nat} {x : D} {S : Store}, (Ir.P.cls[c]?.bind fun k => k.exc) = some [f] → getV η 1 = some (.d x) → (evalP ⟨cf, Ir.P, fu⟩ (.mkx c (.cons (.var 1) .nil))).1 η S = .ok (.d (.obj c [(f, x)])) S := fun h1 h2 => mk1 h1 h2
  rcases (show i = 0 ∨ i = 1 ∨ i = 2 ∨ i = 3 ∨ i = 4 ∨ i = 5 by omega) with rfl | rfl | rfl | rfl | rfl | rfl
  · refine ⟨1, 1, rfl, runD (fd := Ir.f9) rfl rfl rfl hS ?_⟩
    generalize callF Ir.P fu n = cf
    have q := fun (S : Store) => g (cf := cf) (η := [some (.d (.int 0)), some (.d x)]) (S := S) (c := 1) (f := 1) rfl rfl
    simp [-ev_mkx, Ir.f9, startE, getV, q, x1, lookN, toDs, toD]
  · refine ⟨14, 1, rfl, runD (fd := Ir.f9) rfl rfl rfl hS ?_⟩
    generalize callF Ir.P fu n = cf
    have q := fun (S : Store) => g (cf := cf) (η := [some (.d (.int 1)), some (.d x)]) (S := S) (c := 14) (f := 1) rfl rfl
    simp [-ev_mkx, Ir.f9, startE, getV, q, x14, lookN, toDs, toD]
  · refine ⟨15, 1, rfl, runD (fd := Ir.f9) rfl rfl rfl hS ?_⟩
    generalize callF Ir.P fu n = cf
    have q := fun (S : Store) => g (cf := cf) (η := [some (.d (.int 2)), some (.d x)]) (S := S) (c := 15) (f := 1) rfl rfl
    simp [-ev_mkx, Ir.f9, startE, getV, q, x15, lookN, toDs, toD]
  · refine ⟨12, 2, rfl, runD (fd := Ir.f9) rfl rfl rfl hS ?_⟩
    generalize callF Ir.P fu n = cf
    have q := fun (S : Store) => g (cf := cf) (η := [some (.d (.int 3)), some (.d x)]) (S := S) (c := 12) (f := 2) rfl rfl
    simp [-ev_mkx, Ir.f9, startE, getV, q, x12, lookN, toDs, toD]
  · refine ⟨25, 3, rfl, runD (fd := Ir.f9) rfl rfl rfl hS ?_⟩
    generalize callF Ir.P fu n = cf
    have q := fun (S : Store) => g (cf := cf) (η := [some (.d (.int 4)), some (.d x)]) (S := S) (c := 25) (f := 3) rfl rfl
    simp [-ev_mkx, Ir.f9, startE, getV, q, x25, lookN, toDs, toD]
  · refine ⟨27, 4, rfl, runD (fd := Ir.f9) rfl rfl rfl hS ?_⟩
    generalize callF Ir.P fu n = cf
    have q := fun (S : Store) => g (cf := cf) (η := [some (.d (.int 5)), some (.d x)]) (S := S) (c := 27) (f := 4) rfl rfl
    simp [-ev_mkx, Ir.f9, startE, getV, q, x27, lookN, toDs, toD]
/-! ### the things -/
def deepD : Nat → D
  | 0 => .lst [.non]
  | k + 1 => .lst [deepD k]
theorem deep8 (hS : belows S.length S = true) : callF Ir.P fu (n + 1) 8 [] S = .ok (.d (deepD 35)) S := by
  suffices h : Tot (execSs ⟨callF Ir.P fu n, Ir.P, fu⟩ Ir.f8.body (startE Ir.f8.N.length []) S) fun f S' => f = .ret (.d (deepD 35)) ∧ S' = S by
    obtain ⟨f, S', e, rfl, rfl⟩ := h.ex
    exact runD (fd := Ir.f8) rfl rfl rfl hS e
  generalize callF Ir.P fu n = cf
  have L := Tot.forR (set := setT ⟨cf, Ir.P, fu⟩ (.nm 1)) (body := execSs ⟨cf, Ir.P, fu⟩ Ir.f8b0) (fun i : Nat => .int (i : Nat)) (fun (k : Nat) _ => k + 1)
    (fun zs k η S' => S' = S ∧ ∃ w1, η = [some (.d (deepD k)), w1])
    (fun z zs k η S' => by
      rintro ⟨rfl, w1, rfl⟩
      simp [getV, toDs, toD, deepD])
    (List.range 35) 0 [some (.d (.lst [.non])), none] S ⟨rfl, _, rfl⟩
  have h35 : -lineR ≤ (35 : Int) ∧ (35 : Int) < lineR := by unfold lineR; omega
  simp [Ir.f8, startE, getV, toDs, toD, h35, forSrc]
  refine Tot.seq L ?_
  rintro f S' ⟨η', rfl, rfl, w1, rfl⟩
  simp [getV]
def things : List D := [.non, .int 0, .bl true, .str [97], .tup [], .tup [.str [114, 111, 119], .int 3], .lst [.int 1], .dic [], deepD 35, .int (-7), .int 100000000000000000000000000000]
theorem things_repr : ∀ x ∈ things, ∃ s, reprD (.d x) = some (.str s) := by
  have h : ∀ x ∈ things, (reprD (.d x)).isSome = true := by decide +kernel
  intro x hx
  obtain ⟨d, hd⟩ := Option.isSome_iff_exists.mp (h x hx)
  refine ?_
  have : ∀ w d, reprD w = some d → ∃ s, d = .str s := by
    intro w d h
    unfold reprD at h
    split at h
    · cases h; exact ⟨_, rfl⟩
    · rw [Option.bind_eq_some_iff] at h
      obtain ⟨p, _, h⟩ := h
      split at h
      · cases h; exact ⟨_, rfl⟩
      · cases h
    · cases h
  obtain ⟨s, rfl⟩ := this _ _ hd
  exact ⟨s, hd⟩
end K00
/-! K2: the law. -/
namespace K00
open RI QP
variable {fu n N : Nat} {S : Store}
theorem Tot.locR {α β : Type} {set : W → Env → Store → Res Env} {body : Env → Store → Res Flow} {l : Nat} {S : Store} (f : α → D) (step : β → α → β) (I : List α → β → Env → Prop) {all : List α} (hl : S[l]? = some (.lst (all.map f)))
    (hs : ∀ z zs b η, I (z :: zs) b η → Tot ((set (.d (f z)) η S).bnd fun η1 S1 => body η1 S1) fun fl S' => S' = S ∧ ∃ η', fl = .nx η' ∧ I zs (step b z) η') :
    ∀ (zs : List α) (i : Nat) (b : β) (η : Env), all.drop i = zs → i + zs.length = all.length → I zs b η → Tot (forLoc set body l zs.length i η S) fun fl S' => S' = S ∧ ∃ η', fl = .nx η' ∧ I [] (zs.foldl step b) η'
  | [], i, b, η, hd, hi, h => by
    rw [List.length_nil, forLoc]
    try simp only [bind_bnd]
    simp only [hl, List.length_map]
    rw [if_pos (by simp at hi; omega), Tot_ok]
    exact ⟨rfl, η, rfl, h⟩
  | z :: zs, i, b, η, hd, hi, h => by
    have hlt : i < all.length := by simp at hi; omega
    have hz : all[i] = z ∧ all.drop (i + 1) = zs := by
      rw [List.drop_eq_getElem_cons hlt] at hd
      simp only [List.cons.injEq] at hd
      exact hd
    rw [List.length_cons, forLoc]
    try simp only [bind_bnd]
    have hg : (all.map f)[i]? = some (f z) := by rw [List.getElem?_map, List.getElem?_eq_getElem hlt, hz.1]; rfl
    simp only [hl, hg]
    have h1 := hs z zs b η h
    rw [Tot_noExc_bind]
    cases e : set (.d (f z)) η S with
    | ok η1 S1 =>
      rw [e] at h1
      rw [bnd_ok] at h1 ⊢
      refine h1.seq ?_
      rintro _ S2 ⟨rfl, η', rfl, hi'⟩
      exact Tot.locR f step I hl hs zs (i + 1) (step b z) η' hz.2 (by simp at hi; omega) hi'
    | exc _ _ _ => rw [e] at h1; exact h1.h.elim
    | stk => rw [e] at h1; exact h1.h.elim

theorem cl_count : ∀ c ∈ cl, (cl.map fun k => D.bl (decide (k = c))).countP (eqF · (.bl true)) = 1 ∧ (cl.map fun k => D.bl (decide (k = c))).all flatD = true ∧ (cl.map fun k => D.bl (decide (k = c))).any (eqF · (.bl true)) = true := by decide
def obD (z : Nat × List (Nat × D)) : D := .obj z.1 z.2
def DrawT (cf : Nat → List W → Store → Res W) : Prop := ∀ {N : Nat} {p : Po} {T : Store} {m : Int}, p.Ok N → N < 1000000 → 0 < m → m < 1000000 → (∀ k, belows k T = true) → Tot (cf 7 [.loc 1, .d (.int m)] (p.st ++ T)) fun w S => ∃ (r : Nat) (p' : Po), w = .d (.int (r : Nat)) ∧ S = p'.st ++ T ∧ (r : Int) < m ∧ p'.Ok (N + 1)
theorem draw7 : DrawT (callF Ir.P fu (n + 1)) := fun {N p T m} h hN h0 h1 hT => draw_ok (i := 7) rfl h (by omega) h0 (by omega) hT fun r p' h0 h1 h' => ⟨r.toNat, p', by rw [show ((r.toNat : Nat) : Int) = r by omega], rfl, by omega, h'⟩
theorem own_cl : ∀ i < 6, ∀ c f, own[i]? = some (c, f) → cl[i]? = some c := by
  intro i hi c f h
  rcases (show i = 0 ∨ i = 1 ∨ i = 2 ∨ i = 3 ∨ i = 4 ∨ i = 5 by omega) with rfl | rfl | rfl | rfl | rfl | rfl <;> (simp only [own, List.getElem?_cons_zero, List.getElem?_cons_succ, Option.some.injEq, Prod.mk.injEq] at h; rw [← h.1]; rfl)
theorem cl_idx0 : (cl.map fun c => (cl.map fun k => D.bl (decide (k = c))).findIdx (eqF · (.bl true))) = List.range 28 := by decide
theorem cl_idx : (cl.map fun c => D.int ((cl.map fun k => D.bl (decide (k = c))).findIdx (eqF · (.bl true)) : Nat)) = (List.range 28).map fun i : Nat => .int (i : Nat) := by
  rw [← cl_idx0, List.map_map]
  rfl
theorem set28 : setD .len (.d (.lst ((List.range 28).map fun i : Nat => .int (i : Nat)))) S = some (.int 28) := by
  have h1 : intsOf ((List.range 28).map fun i : Nat => D.int (i : Nat)) = some ((List.range 28).map fun i : Nat => (i : Int)) := by
    have := RI.intsOf_map ((List.range 28).map fun i : Nat => (i : Int))
    rw [List.map_map] at this
    exact this
  have h2 : (sortU ((List.range 28).map fun i : Nat => (i : Int))).length = 28 := by decide +kernel
  have h3 : ((List.range 28).map fun i : Nat => (i : Int)).length < 4000 := by simp
  unfold setD
  simp only [seqOf, Option.bind_some, h1, h2]
  rw [if_pos h3]
  rfl
theorem thing_at {r : Nat} (h : r < 11) : ∃ x ∈ things, L2.atI things (r : Int) = some x := by
  obtain ⟨x, hx, e⟩ := ix_in (xs := things) (i := (r : Int)) (by omega) (by simp [things]; omega)
  exact ⟨x, hx, e⟩
section
variable {cf : Nat → List W → Store → Res W} {w0 : Option W}
structure L0 (cf : Nat → List W → Store → Res W) : Prop where
  dr : DrawT cf
  e9 : ∀ {S : Store} {i : Nat} {x : D}, i < 6 → belows S.length S = true → ∃ c f, own[i]? = some (c, f) ∧ cf 9 [.d (.int (i : Nat)), .d x] S = .ok (.d (.tup [x, .obj c [(f, x)]])) S
  e8 : ∀ {S : Store}, belows S.length S = true → cf 8 [] S = .ok (.d (deepD 35)) S
  e10 : ∀ {S : Store}, belows S.length S = true → cf 10 [] S = .ok (.d (.lst (plain.map fun c => .obj c []))) S
  e11 : ∀ {S : Store} {c : Nat} {fs : List (Nat × D)}, c ∈ cl → belows S.length S = true → cf 11 [.d (.obj c fs)] S = .ok (.d (kindsD c)) S
theorem l0 : L0 (callF Ir.P fu (n + 1)) := ⟨draw7, fun hi hS => made9 hi hS, fun hS => deep8 hS, fun hS => plain10 hS, fun hc hS => kinds11 hc hS⟩
/-- one error made and kept -/
theorem turn1 {p : Po} {i : Nat} {G : List (Nat × List (Nat × D))} {w5 w6 w7 : Option W} (X : L0 cf) (hp : p.Ok N) (hN : N + 10 < 1000000) (hi : i < 6) (hG : G.map (·.1) = cl.take i) :
    Tot (execSs ⟨cf, Ir.P, fu⟩ Ir.f12b0 [w0, some (.loc 1), some (.d (.lst things)), some (.loc 2), some (.d (.int (i : Nat))), w5, w6, w7] (p.st ++ [.lst (G.map obD)]))
      fun f S' => ∃ (p' : Po) (G' : List (Nat × List (Nat × D))) (v5 v6 v7 : Option W), f = .nx [w0, some (.loc 1), some (.d (.lst things)), some (.loc 2), some (.d (.int (i : Nat))), v5, v6, v7] ∧ S' = p'.st ++ [.lst (G'.map obD)] ∧ G'.map (·.1) = cl.take (i + 1) ∧ p'.Ok (N + 1) := by
  have hT : ∀ k, belows k [Cell.lst (G.map obD)] = true := fun k => rfl
  have hGl : G.length ≤ 6 := by
    have := congrArg List.length hG
    simp at this
    omega
  simp [-List.map_map, getV]
  refine Tot.seq (X.dr (T := [.lst (G.map obD)]) hp (by omega) (by omega) (by omega) hT) ?_
  rintro _ _ ⟨r, p2, rfl, rfl, hr, hp2⟩
  obtain ⟨x, hx, ex⟩ := thing_at (r := r) (by omega)
  obtain ⟨s, hs⟩ := things_repr x hx
  have hB : belows (p2.st ++ [Cell.lst (G.map obD)]).length (p2.st ++ [Cell.lst (G.map obD)]) = true := rfl
  obtain ⟨c, f, ho, e9⟩ := X.e9 (i := i) (x := x) hi hB
  have hcl := own_cl i hi c f ho
  have hln : (G.map obD).length < line := by rw [List.length_map]; unfold line; omega
  have hap : G.map obD ++ [.obj c [(f, x)]] = (G ++ [(c, [(f, x)])]).map obD := by simp [obD]
  generalize things = th at *
  have hat2 : (p2.st ++ [Cell.lst (G.map obD)])[2]? = some (.lst (G.map obD)) := rfl
  have hset : ∀ ys : List D, (p2.st ++ [Cell.lst (G.map obD)]).set 2 (.lst ys) = p2.st ++ [.lst ys] := fun ys => rfl
  generalize hgd : G.map obD = gd at *
  simp [-List.map_map, getV, ex, e9, hs, hat2, hset, hln]
  refine ⟨p2, G ++ [(c, [(f, x)])], ⟨rfl, hap⟩, ?_, hp2⟩
  rw [List.map_append, hG, List.take_add_one, hcl]
  rfl
/-- one error asked -/
theorem turn2 {z : Nat × List (Nat × D)} {w1 w2 w3 w4 w6 w7 : Option W} (X : L0 cf) (hz : z.1 ∈ cl) (hS : belows S.length S = true) :
    execSs ⟨cf, Ir.P, fu⟩ Ir.f12b1 [w0, w1, w2, w3, w4, some (.d (obD z)), w6, w7] S = .ok (.nx [w0, w1, w2, w3, w4, some (.d (obD z)), w6, w7]) S := by
  obtain ⟨c, fs⟩ := z
  obtain ⟨_, h2, h3, h4⟩ := ty_cl c hz
  have e11 := X.e11 (S := S) (fs := fs) hz hS
  obtain ⟨c1, c2, c3⟩ := cl_count c hz
  have hb : bmD .count (.d (kindsD c)) [.d (.bl true)] S = .ok (.d (.int 1)) S := by
    show (match lstOf (.d (kindsD c)) S with
      | some xs => if flatD (.bl true) && xs.all flatD then Res.ok (W.d (.int (xs.countP (eqF · (.bl true))))) S else .stk
      | none => .stk) = _
    simp only [kindsD, lstOf]
    rw [c2, c1]
    rfl
  have hr : recvOk .count (.d (kindsD c)) S = true := rfl
  simp [getV, obD, h2, h3, h4, e11, hr, hb]
theorem index12 {z : Nat × List (Nat × D)} {η : Env} (X : L0 cf) (hz : z.1 ∈ cl) (hS : belows S.length S = true) (hη : getV η 5 = some (.d (obD z))) :
    (evalP ⟨cf, Ir.P, fu⟩ (.bm (.call 11 (.cons (.var 5) .nil)) .index (.cons (.bl true) .nil))).1 η S = .ok (.d (.int ((cl.map fun k => D.bl (decide (k = z.1))).findIdx (eqF · (.bl true)) : Nat))) S := by
  obtain ⟨c, fs⟩ := z
  have e11 := X.e11 (S := S) (fs := fs) hz hS
  obtain ⟨c1, c2, c3⟩ := cl_count c hz
  have hln : (cl.map fun k => D.bl (decide (k = c))).length ≤ line := by simp [cl]; decide
  have hb : bmD .index (.d (kindsD c)) [.d (.bl true)] S = .ok (.d (.int ((cl.map fun k => D.bl (decide (k = c))).findIdx (eqF · (.bl true)) : Nat))) S := by
    show (match lstOf (.d (kindsD c)) S with
      | some xs => if flatD (.bl true) && xs.all flatD && xs.any (eqF · (.bl true)) && decide (xs.length ≤ line) then Res.ok (W.d (.int (xs.findIdx (eqF · (.bl true))))) S else .stk
      | none => .stk) = _
    simp only [kindsD, lstOf]
    rw [c2, c3, decide_eq_true hln]
    rfl
  have hr : recvOk .index (.d (kindsD c)) S = true := rfl
  simp [hη, obD, e11, hr, hb]
end
theorem Tot.nxI {P : Env → Store → Prop} {η : Env} {S : Store} (h : P η S) : Tot (.ok (.nx η) S) (TQ P) := by
  rw [Tot_ok]
  exact TQ.mk h
theorem law00 : ∀ xs : List Int, xs.length ≤ 63 → ∃ S', callF Ir.P 10000000000 40 Ir.lawId [.scr xs] [] = .ok (.d (.bl true)) S' := by
  intro xs hx
  have X : L0 (callF Ir.P 10000000000 39) := l0 (n := 38)
  have h6 : ∀ {Q : W → Store → Prop}, (∀ p : Po, p.Ok 0 → Q (.loc 1) p.st) → Tot (callF Ir.P 10000000000 39 6 [.scr xs] []) Q := fun hQ => pool_ok (i := 6) rfl hx hQ
  suffices h : Tot (execSs ⟨callF Ir.P 10000000000 39, Ir.P, 10000000000⟩ Ir.f12.body (startE Ir.f12.N.length [.scr xs]) []) fun f S' => f = .ret (.d (.bl true)) by
    obtain ⟨f, S', e, rfl⟩ := h.ex
    refine ⟨[], ?_⟩
    rw [show Ir.lawId = 12 from rfl, runT (fd := Ir.f12) rfl rfl, e]
    simp [finish, close, Ir.f12, belows, freeze]
  generalize callF Ir.P 10000000000 39 = cf at *
  simp only [Ir.f12, startE]
  refine Tot.st (fun η' S' => ∃ p : Po, η' = [some (.scr xs), some (.loc 1), none, none, none, none, none, none] ∧ S' = p.st ∧ p.Ok 0) ?_ ?_
  · simp [-Tot_ok, getV]
    refine Tot.seq (h6 (Q := fun w S => ∃ p : Po, w = .loc 1 ∧ S = p.st ∧ p.Ok 0) fun p hp => ⟨p, rfl, rfl, hp⟩) ?_
    rintro _ _ ⟨p, rfl, rfl, hp⟩
    simp [-Tot_ok]
    exact Tot.nxI ⟨p, rfl, rfl, hp⟩
  rintro _ _ ⟨p, rfl, rfl, hp⟩
  have hB0 : ∀ p : Po, belows p.st.length p.st = true := fun p => rfl
  have e8 := X.e8 (S := p.st) (hB0 p)
  refine Tot.se (η' := [some (.scr xs), some (.loc 1), some (.d (.lst things)), none, none, none, none, none]) ?_ ?_
  · have hpw : ∀ S, binD .pow (.d (.int 10)) (.d (.int 29)) S = some (.int 100000000000000000000000000000) := fun S => rfl
    simp [-bn_pow, getV, e8, hpw, toDs, toD, things]
  refine Tot.st (fun η' S' => S' = p.st ++ [.lst []] ∧ η' = [some (.scr xs), some (.loc 1), some (.d (.lst things)), some (.loc 2), none, none, none, none]) ?_ ?_
  · have hl : p.st.length = 2 := rfl
    simp [-Tot_ok, getV, thawD, toDs, hl]
    exact Tot.nxI ⟨rfl, rfl⟩
  rintro _ _ ⟨rfl, rfl⟩
  -- the six
  refine Tot.st (fun η' S' => ∃ (p' : Po) (G : List (Nat × List (Nat × D))) (w4 w5 w6 w7 : Option W), S' = p'.st ++ [.lst (G.map obD)] ∧ η' = [some (.scr xs), some (.loc 1), some (.d (.lst things)), some (.loc 2), w4, w5, w6, w7] ∧ G.map (·.1) = cl.take 6) ?_ ?_
  · have L := Tot.forR (set := setT ⟨cf, Ir.P, 10000000000⟩ (.nm 4)) (body := execSs ⟨cf, Ir.P, 10000000000⟩ Ir.f12b0) (fun i : Nat => .int (i : Nat)) (fun (_ : Unit) _ => ())
      (fun zs _ η S' => ∃ (i : Nat) (p' : Po) (G : List (Nat × List (Nat × D))) (w4 w5 w6 w7 : Option W), zs = (List.range 6).drop i ∧ i ≤ 6 ∧ η = [some (.scr xs), some (.loc 1), some (.d (.lst things)), some (.loc 2), w4, w5, w6, w7] ∧ S' = p'.st ++ [.lst (G.map obD)] ∧ G.map (·.1) = cl.take i ∧ p'.Ok i)
      (fun z zs _ η S' => by
        rintro ⟨i, p', G, w4, w5, w6, w7, hz, hi, rfl, rfl, hG, hp'⟩
        have hi6 : i < 6 := by
          have := congrArg List.length hz
          simp at this
          omega
        have hz' : z = i ∧ zs = (List.range 6).drop (i + 1) := by
          rw [List.drop_eq_getElem_cons (by simpa using hi6)] at hz
          simp only [List.cons.injEq, List.getElem_range] at hz
          exact hz
        obtain ⟨rfl, rfl⟩ := hz'
        rw [st_nm, if_pos (by simp), bnd_ok]
        show Tot (execSs ⟨cf, Ir.P, 10000000000⟩ Ir.f12b0 [some (.scr xs), some (.loc 1), some (.d (.lst things)), some (.loc 2), some (.d (.int (z : Nat))), w5, w6, w7] (p'.st ++ [.lst (G.map obD)])) _
        refine (turn1 X hp' (by omega) hi6 hG).mono ?_
        rintro f S2 ⟨p2, G2, v5, v6, v7, rfl, rfl, hG2, hp2⟩
        exact ⟨_, rfl, z + 1, p2, G2, _, _, _, _, rfl, by omega, rfl, rfl, hG2, hp2⟩)
      (List.range 6) () [some (.scr xs), some (.loc 1), some (.d (.lst things)), some (.loc 2), none, none, none, none] (p.st ++ [.lst []]) ⟨0, p, [], _, _, _, _, rfl, by omega, rfl, rfl, rfl, hp⟩
    have h6' : -lineR ≤ (6 : Int) ∧ (6 : Int) < lineR := by unfold lineR; omega
    generalize things = th at *
    simp [-Tot_ok, h6', forSrc]
    refine L.mono ?_
    rintro f S' ⟨η', rfl, i, p', G, w4, w5, w6, w7, hz, hi, rfl, rfl, hG, _⟩
    have : i = 6 := by
      have := congrArg List.length hz
      simp at this
      omega
    subst this
    exact TQ.mk ⟨p', G, w4, w5, w6, w7, rfl, rfl, hG⟩
  rintro _ _ ⟨p', G, w4, w5, w6, w7, rfl, rfl, hG⟩
  have hB1 : ∀ ys : List D, belows (p'.st ++ [Cell.lst ys]).length (p'.st ++ [Cell.lst ys]) = true := fun ys => rfl
  have hGl : G.length = 6 := by
    have := congrArg List.length hG
    simpa [cl] using this
  generalize hA : G ++ plain.map (fun c => (c, ([] : List (Nat × D)))) = A
  have hAc : A.map (·.1) = cl := by
    rw [← hA, List.map_append, hG]
    rfl
  have hAl : A.length = 28 := by
    have := congrArg List.length hAc
    simpa [cl] using this
  have hAm : ∀ z ∈ A, z.1 ∈ cl := fun z hz => by
    rw [← hAc]
    exact List.mem_map_of_mem hz
  have hap : G.map obD ++ plain.map (fun c => D.obj c []) = A.map obD := by rw [← hA]; simp [obD]
  refine Tot.st (fun η' S' => S' = p'.st ++ [.lst (G.map obD), .lst (A.map obD)] ∧ η' = [some (.scr xs), some (.loc 1), some (.d (.lst things)), some (.loc 3), w4, w5, w6, w7]) ?_ ?_
  · have e10 := X.e10 (S := p'.st ++ [Cell.lst (G.map obD)]) (hB1 _)
    have hadd : ∀ S, binD .add (.d (.lst (G.map obD))) (.d (.lst (plain.map fun c => D.obj c []))) S = some (.lst (A.map obD)) := fun S => by
      have : (G.map obD).length + (plain.map fun c => D.obj c []).length ≤ line := by rw [List.length_map, hGl]; decide
      rw [bn_addl, if_pos this, hap]
    have hadd2 : binD .add (.loc 2) (.d (.lst (plain.map fun c => D.obj c []))) (p'.st ++ [Cell.lst (G.map obD)]) = some (.lst (A.map obD)) := hadd (p'.st ++ [Cell.lst (G.map obD)])
    have hl3 : (p'.st ++ [Cell.lst (G.map obD)]).length = 3 := rfl
    generalize things = th at *
    generalize A.map obD = ad at *
    generalize G.map obD = gd at *
    generalize plain.map (fun c => D.obj c []) = pd at *
    simp [-Tot_ok, getV, e10, hadd2, thawD]
    exact Tot.nxI ⟨by simp, rfl⟩
  rintro _ _ ⟨rfl, rfl⟩
  have hB2 : belows (p'.st ++ [Cell.lst (G.map obD), Cell.lst (A.map obD)]).length (p'.st ++ [Cell.lst (G.map obD), Cell.lst (A.map obD)]) = true := rfl
  have hc3 : (p'.st ++ [Cell.lst (G.map obD), Cell.lst (A.map obD)])[3]? = some (.lst (A.map obD)) := rfl
  -- each one asked
  refine Tot.st (fun η' S' => S' = p'.st ++ [.lst (G.map obD), .lst (A.map obD)] ∧ ∃ v5, η' = [some (.scr xs), some (.loc 1), some (.d (.lst things)), some (.loc 3), w4, v5, w6, w7]) ?_ ?_
  · have L := Tot.locR (set := setT ⟨cf, Ir.P, 10000000000⟩ (.nm 5)) (body := execSs ⟨cf, Ir.P, 10000000000⟩ Ir.f12b1) obD (fun (_ : Unit) _ => ()) (fun zs _ η => (∀ z ∈ zs, z ∈ A) ∧ ∃ v5, η = [some (.scr xs), some (.loc 1), some (.d (.lst things)), some (.loc 3), w4, v5, w6, w7]) hc3
      (fun z zs _ η => by
        rintro ⟨hz, v5, rfl⟩
        have e := turn2 (fu := 10000000000) (cf := cf) (w0 := some (.scr xs)) (w1 := some (.loc 1)) (w2 := some (.d (.lst things))) (w3 := some (.loc 3)) (w4 := w4) (w6 := w6) (w7 := w7) X (hAm z (hz z (by simp))) hB2
        rw [st_nm, if_pos (by simp), bnd_ok]
        show Tot (execSs ⟨cf, Ir.P, 10000000000⟩ Ir.f12b1 [some (.scr xs), some (.loc 1), some (.d (.lst things)), some (.loc 3), w4, some (.d (obD z)), w6, w7] _) _
        rw [e, Tot_ok]
        exact ⟨rfl, _, rfl, fun y hy => hz y (by simp [hy]), _, rfl⟩)
      A 0 () [some (.scr xs), some (.loc 1), some (.d (.lst things)), some (.loc 3), w4, w5, w6, w7] (by simp) (by simp) ⟨fun _ h => h, _, rfl⟩
    have hlen : (A.map obD).length = A.length := by simp
    generalize things = th at *
    generalize hAd : A.map obD = ad at *
    generalize hst : p'.st ++ [Cell.lst (G.map obD), Cell.lst ad] = St at *
    simp [-Tot_ok, getV, hc3, forSrc, hlen]
    refine L.mono ?_
    rintro f S' ⟨rfl, η', rfl, _, v5, rfl⟩
    exact TQ.mk ⟨rfl, v5, rfl⟩
  rintro _ _ ⟨rfl, v5, rfl⟩
  have key := lcMapL (C := ⟨cf, Ir.P, 10000000000⟩) (i := 5) (l := 3) (e := .bm (.call 11 (.cons (.var 5) .nil)) .index (.cons (.bl true) .nil)) (η := [some (.scr xs), some (.loc 1), some (.d (.lst things)), some (.loc 3), w4, none, w6, w7]) (S := p'.st ++ [.lst (G.map obD), .lst (A.map obD)]) obD (fun z => D.int ((cl.map fun k => D.bl (decide (k = z.1))).findIdx (eqF · (.bl true)) : Nat)) (zs := A) hc3 (by rw [hAl]; decide) (by simp)
    (fun z hz => index12 X (hAm z hz) hB2 rfl)
  have hmap : A.map (fun z => D.int ((cl.map fun k => D.bl (decide (k = z.1))).findIdx (eqF · (.bl true)) : Nat)) = (List.range 28).map fun i : Nat => .int (i : Nat) := by
    have h := cl_idx
    have h2 := congrArg (List.map fun c => D.int ((cl.map fun k => D.bl (decide (k = c))).findIdx (eqF · (.bl true)) : Nat)) hAc
    rw [List.map_map] at h2
    exact h2.trans h
  rw [hmap] at key
  have hs28 := fun S => set28 (S := S)
  have hlen : (A.map obD).length = A.length := by simp
  generalize things = th at *
  generalize hAd : A.map obD = ad at *
  generalize (List.range 28).map (fun i : Nat => D.int (i : Nat)) = r28 at *
  generalize hst : p'.st ++ [Cell.lst (G.map obD), Cell.lst ad] = St at *
  have hlenA : ad.length = 28 := by rw [hlen, hAl]
  rw [hAl] at key
  simp [getV, hc3, wipeE, hlenA] at key ⊢
  rw [key]
  simp [hs28, hc3, hlenA, getV]
end K00
theorem PySem.Challenge.cw_oncetwice_k00_errors_of_the_package_holds : PySem.Challenge.rw_oncetwice_k00_errors_of_the_package.Holds := by
  exact law_of K00.law00
