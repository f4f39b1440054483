import PyProof.Rows.All
import Wide.All
import OpenK.AllK
import Wide.FinOn
import HandS.ForMost
import HandS.ForExc
import HandS.ExcInit
import HandS.TupMul
import HandS.TupAny
import HandS.Zip
import HandS.Style
import HandS.Conv
import HandS.IsInst
import HandS.Wide
import HandS.Defaults
import HandS.Flow
import HandS.Deep
import HandS.RaiseMore
import KE.GoesEnum
import KE.GoesMore
import KE.GoesZip
import HandS.ExcIs
import HandS.HeadEnd
import HandS.OwnEq
import PyProof.InstNe
import HandS.Head0
import HandS.Head1
import HandS.Head2
import HandS.HeadHook1
import HandS.HeadHook2
import HandS.HeadHook3
import HandS.HeadHook4
import KE.KExcIs
import HandS.Ends
import HandS.SetFor
import HandS.Strs
import KE.KRevSl
import KE.KStateDown
import PySem.Challenge.RW_oncetwice_k07_whole_stages_and_lacks
set_option Elab.async false
set_option linter.all false
set_option maxRecDepth 100000
set_option maxHeartbeats 0
/-! RI1: values, stores, the small language, its evaluator (plain Lean, no heap). -/
namespace RI
open PySem (Str)

/-- data that never change -/
inductive D where
  | non | bl (b : Bool) | int (i : Int) | str (s : List Nat)
  | tup (xs : List D) | lst (xs : List D) | dic (kvs : List (D × D)) | obj (c : Nat) (fs : List (Nat × D)) | fn (f : Nat)
  deriving Inhabited

/-- what a name holds: data, a cell of the store, the script, a caught error -/
inductive W where
  | d (x : D) | loc (l : Nat) | scr (ns : List Int) | exn (c : Nat) (fs : List (Nat × D))
  deriving Inhabited

inductive Cell where
  | lst (xs : List D) | lsw (ws : List W) | dct (kvs : List (D × D)) | ins (c : Nat) (fs : List (Nat × W)) | dead
  deriving Inhabited

abbrev Store := List Cell
abbrev Env := List (Option W)

inductive Res (α : Type) where
  | ok (a : α) (S : Store) | exc (c : Nat) (fs : List (Nat × D)) (S : Store) | stk

def Res.bind {α β : Type} (r : Res α) (f : α → Store → Res β) : Res β :=
  match r with
  | .ok a S => f a S
  | .exc c fs S => .exc c fs S
  | .stk => .stk

@[simp] theorem Res.bind_ok {α β : Type} (a : α) (S : Store) (f : α → Store → Res β) : (Res.ok a S).bind f = f a S := id rfl
@[simp] theorem Res.bind_exc {α β : Type} (c : Nat) (fs : List (Nat × D)) (S : Store) (f : α → Store → Res β) : (Res.exc c fs S).bind f = .exc c fs S := id rfl
@[simp] theorem Res.bind_stk {α β : Type} (f : α → Store → Res β) : (Res.stk : Res α).bind f = .stk := id rfl

def ofO {α : Type} (o : Option α) (S : Store) : Res α :=
  match o with
  | some a => .ok a S
  | none => .stk
@[simp] theorem ofO_some {α : Type} (a : α) (S : Store) : ofO (some a) S = .ok a S := rfl
@[simp] theorem ofO_none {α : Type} (S : Store) : ofO (none : Option α) S = .stk := rfl

/-! ### data equal -/
mutual
def toPD : D → Option PySem.PyData
  | .non => some .none
  | .bl b => some (.bool b)
  | .int i => some (.int i)
  | .str s => some (.str ⟨s.toArray⟩)
  | .tup xs => (toPDs xs).map .tuple
  | .lst xs => (toPDs xs).map .list
  | _ => none
def toPDs : List D → Option (List PySem.PyData)
  | [] => some []
  | x :: xs => match toPD x, toPDs xs with
    | some p, some ps => some (p :: ps)
    | _, _ => none
end

/-- == of data -/
def pyEq (a b : D) : Option Bool :=
  match toPD a, toPD b with
  | some p, some q => if PySem.SeqAt.shaped p && PySem.SeqAt.shaped q then some (PySem.PyData.eqv p q) else none
  | _, _ => none

/-! ### cells to data -/
def wsD : List (Nat × W) → Option (List (Nat × D))
  | [] => some []
  | (f, .d x) :: r => (wsD r).map ((f, x) :: ·)
  | _ => none
def cellD : Cell → Option D
  | .lst xs => some (.lst xs)
  | .dct kvs => some (.dic kvs)
  | .ins c fs => (wsD fs).map (.obj c)
  | _ => none
/-- what a name holds becomes data; its cell can't be written any more -/
def toD (w : W) (S : Store) : Res D :=
  match w with
  | .d x => .ok x S
  | .loc l => match S[l]?.bind cellD with
    | some x => .ok x (S.set l .dead)
    | none => .stk
  | _ => .stk
def toDs : List W → Store → Res (List D)
  | [], S => .ok [] S
  | w :: ws, S => (toD w S).bind fun x S1 => (toDs ws S1).bind fun xs S2 => .ok (x :: xs) S2
@[simp] theorem toD_d (x : D) (S : Store) : toD (.d x) S = .ok x S := rfl
@[simp] theorem toDs_nil (S : Store) : toDs [] S = .ok [] S := rfl
@[simp] theorem toDs_d (x : D) (ws : List W) (S : Store) : toDs (.d x :: ws) S = (toDs ws S).bind fun xs S2 => .ok (x :: xs) S2 := rfl

def wBelow (n : Nat) : W → Bool
  | .loc l => decide (l < n)
  | _ => true
def cellBelow (n : Nat) : Cell → Bool
  | .lsw ws => ws.all (wBelow n)
  | .ins _ fs => fs.all fun p => wBelow n p.2
  | _ => true
def belows (n : Nat) (S : Store) : Bool := S.all (cellBelow n)

/-! ### the language -/
inductive BOp where | add | sub | mul | fdiv | mod | pow
  deriving DecidableEq
inductive COp where | eq | ne | lt | le | gt | ge | inn | nin
  deriving DecidableEq
inductive Ty where | none | bool | int | str | tuple | list | dict | cls (c : Nat) | valueError
  deriving DecidableEq
inductive BI where | abs | all | any | int | len | list | str | sum | tuple | min | repr | sorted
  deriving DecidableEq
inductive BM where | append | extend | pop | count | index | get | join | split
  deriving DecidableEq

/-- what is asked of a set that is let go at once: its size, its items ascending -/
inductive SO where | len | sort
  deriving DecidableEq

mutual
inductive IE where
  | var (i : Nat) | glob (k : Nat) | fnv (f : Nat)
  | non | bl (b : Bool) | int (i : Int) | str (s : List Nat)
  | tup (es : IEs) | lst (es : IEs) | dic0
  | bin (o : BOp) (a b : IE) | neg (a : IE) | not (a : IE)
  | cmp (o : COp) (a b : IE) | cmpd (o : COp) (a b : IE) | chain (o o' : COp) (a b c : IE) | isn (neg : Bool) (a : IE) | isb (b : Bool) (a : IE)
  | and (es : IEs) | or (es : IEs)
  | ifx (c a b : IE)
  | call (f : Nat) (es : IEs) | callv (i : Nat) (es : IEs) | meth (e : IE) (m : Nat) (es : IEs) | mk (c : Nat) (es : IEs)
  | bi (b : BI) (es : IEs) | bm (e : IE) (m : BM) (es : IEs)
  | fld (e : IE) (f : Nat)
  | ix (a b : IE) | sl (a : IE) (lo hi : IO)
  | lc (e : IE) (own : List Nat) (t : IT) (it : II) (ifs : IO)
  | isi (e : IE) (ts : List Ty)
  | thaw (e : IE)
  | rep (a : IE) | lrng (a : IE) | isx (e : IE) (t : Ty) | flx (e : IE) (f : Nat)
  | dix (a b : IE) | din (neg : Bool) (b a : IE) | dget (a b c : IE) | dkeys (a : IE) | dlen (a : IE) | dnew
  | srt (a : IE) | rev (a : IE) | kget (k : Nat) (a d : IE) | kin (k : Nat) (neg : Bool) (a : IE) | kix (k : Nat) (a : IE) | dpr (a : IE)
  | lsw (es : IEs) | dic1 (k v : IE) | setop (o : SO) (a : IE) | lc2 (e : IE) (own : List Nat) (t : IT) (it : II) (t2 : IT) (it2 : II)
inductive IEs where
  | nil | cons (e : IE) (es : IEs)
inductive IO where
  | no | yes (e : IE)
inductive II where
  | seq (e : IE) | rng (a : IE) | rng2 (a b : IE) | rngd (a b : IE) | enum (e : IE) | zip (a b : IE)
inductive IT where
  | nm (i : Nat) | tup (ts : ITs) | sub (o i : IE) | fld (o : IE) (f : Nat) | dsub (o i : IE)
inductive ITs where
  | nil | cons (t : IT) (ts : ITs)
end

mutual
inductive IS where
  | expr (e : IE) | ret (e : IE) | retN | pass | brk | cont
  | asg (t : IT) (e : IE)
  | par (is : List Nat) (es : IEs)
  | aug (i : Nat) (o : BOp) (e : IE)
  | ife (c : IE) (a b : ISs) | for_ (t : IT) (it : II) (b : ISs) | whl (c : IE) (b : ISs)
  | raise (c : Nat) (es : IEs) | tryx (body : IB) (c : Nat) (i : Nat) (suite : ISs) | tryo (body : IB) (c : Nat) (suite : ISs)
inductive ISs where
  | nil | cons (s : IS) (ss : ISs)
/-- a try's body: what may raise comes first -/
inductive IB where
  | one (s : IS) (rest : ISs) | ifb (c : IE) (a b : IB) (rest : ISs)
end

structure FnD where
  name : Str
  N : List Str
  np : Nat
  body : ISs
  keep : Bool
  top : Bool := true
structure ClD where
  name : Str
  init : Option Nat
  meths : List (Nat × Nat)
  frozen : Bool
  sups : List Nat
  exc : Option (List Nat)
  xin : Option Nat := none
structure Prog where
  fns : List FnD
  cls : List ClD
  consts : List D
  cnm : List Str := []
  flds : List Nat := []
  tabs : List (List (List Nat × D)) := []
  tnm : List Str := []

/-- where an expression is run -/
structure Ctx where
  call : Nat → List W → Store → Res W
  P : Prog
  fu : Nat

/-! ### operations on what is held -/
inductive SK where | tup | lst
  deriving DecidableEq
def seqOf (w : W) (S : Store) : Option (SK × List D) :=
  match w with
  | .d (.tup xs) => some (.tup, xs)
  | .d (.lst xs) => some (.lst, xs)
  | .scr ns => some (.lst, ns.map D.int)
  | .loc l => match S[l]? with
    | some (.lst xs) => some (.lst, xs)
    | _ => none
  | _ => none
/-- a list that is no script -/
def lstOf (w : W) (S : Store) : Option (List D) :=
  match w with
  | .d (.lst xs) => some xs
  | .loc l => match S[l]? with
    | some (.lst xs) => some xs
    | _ => none
  | _ => none

def line : Nat := 16777216
def bitsOk (i j : Int) : Bool := decide (i.natAbs.log2 + j.natAbs.log2 < 1000000)
def rep {α : Type} (k : Int) (xs : List α) : List α := (List.replicate k.toNat xs).flatten

def addD (a b : W) (S : Store) : Option D :=
  match a, b with
  | .d (.int i), .d (.int j) => some (.int (i + j))
  | .d (.str s), .d (.str t) => if s.length + t.length ≤ line then some (.str (s ++ t)) else none
  | .d (.tup s), .d (.tup t) => if s.length + t.length ≤ line then some (.tup (s ++ t)) else none
  | x, y => match lstOf x S, lstOf y S with
    | some s, some t => if s.length + t.length ≤ line then some (.lst (s ++ t)) else none
    | _, _ => none
def subD (a b : W) (_ : Store) : Option D :=
  match a, b with
  | .d (.int i), .d (.int j) => some (.int (i - j))
  | _, _ => none
def mulD (a b : W) (S : Store) : Option D :=
  match a, b with
  | .d (.int i), .d (.int j) => if bitsOk i j then some (.int (i * j)) else none
  | .d (.tup s), .d (.int k) => if -(2 ^ 63) ≤ k ∧ k ≤ 1000 ∧ s.length ≤ 1000 then some (.tup (rep k s)) else none
  | x, .d (.int k) => match lstOf x S with
    | some s => if s.length * k.toNat ≤ line ∧ -(2 ^ 63) ≤ k ∧ k < 2 ^ 63 then some (.lst (rep k s)) else none
    | none => none
  | _, _ => none
def fdivD (a b : W) (_ : Store) : Option D :=
  match a, b with
  | .d (.int i), .d (.int j) => if (0 < j ∧ j.natAbs.log2 < 9000) ∨ (j ≠ 0 ∧ j.natAbs.log2 < 9000) then some (.int (i.fdiv j)) else none
  | _, _ => none
def modD (a b : W) (_ : Store) : Option D :=
  match a, b with
  | .d (.int i), .d (.int j) => if j ≠ 0 then some (.int (i.fmod j)) else none
  | _, _ => none
def powD (a b : W) (_ : Store) : Option D :=
  match a, b with
  | .d (.int i), .d (.int j) => if 0 ≤ j ∧ j ≤ 1000000 ∧ i.natAbs < 2 ^ 64 then some (.int (i ^ j.toNat)) else none
  | _, _ => none
def binD : BOp → W → W → Store → Option D
  | .add => addD | .sub => subD | .mul => mulD | .fdiv => fdivD | .mod => modD | .pow => powD

/-- flat data -/
def flatD : D → Bool
  | .non => true
  | .bl _ => true
  | .int _ => true
  | .str _ => true
  | _ => false
/-- == of flat data -/
def eqF : D → D → Bool
  | .non, .non => true
  | .bl a, .bl b => a == b
  | .bl a, .int b => (if a then 1 else 0) == b
  | .int a, .bl b => a == (if b then 1 else 0)
  | .int a, .int b => a == b
  | .str a, .str b => a == b
  | _, _ => false
/-- x in a sequence -/
def pyIn (k : SK) (x : D) (ys : List D) : Option Bool :=
  if flatD x && ys.all flatD then some (ys.any fun y => eqF y x) else
    match toPD x, toPDs ys with
    | some p, some ps => if PySem.SeqAt.shaped p ∧ PySem.SeqAt.shaped (.list ps) then some (ps.any fun z => PySem.PyData.eqv z p) else none
    | _, _ => none
def intC (p : Int → Int → Bool) (a b : W) (_ : Store) : Option Bool :=
  match a, b with
  | .d (.int i), .d (.int j) => some (p i j)
  | _, _ => none
def eqD (a b : W) (S : Store) : Option Bool :=
  match a, b with
  | .d (.str s), .d (.str t) => some (decide (s = t))
  | .d x, .d y => pyEq x y
  | x, y => match lstOf x S, lstOf y S with
    | some s, some t => pyEq (.lst s) (.lst t)
    | _, _ => none
def inD (a b : W) (S : Store) : Option Bool :=
  match a, b with
  | .d (.str [c]), .d (.str y) => some (decide (c ∈ y))
  | .d x, y => match seqOf y S with
    | some (k, ys) => pyIn k x ys
    | none => none
  | _, _ => none
def cmpD : COp → W → W → Store → Option Bool
  | .lt => intC fun i j => decide (i < j)
  | .le => intC fun i j => decide (i ≤ j)
  | .gt => intC fun i j => decide (j < i)
  | .ge => intC fun i j => decide (j ≤ i)
  | .eq => eqD
  | .ne => fun a b S => (eqD a b S).map (!·)
  | .inn => inD
  | .nin => fun a b S => (inD a b S).map (!·)

def truthy (w : W) (S : Store) : Option Bool :=
  match w with
  | .d .non => some false
  | .d (.bl b) => some b
  | .d (.int i) => some (i != 0)
  | .d (.str s) => if s.length ≤ line then some (!s.isEmpty) else none
  | .d (.obj _ _) => none
  | .d (.fn _) => none
  | .d (.dic _) => none
  | w => (seqOf w S).map fun p => !p.2.isEmpty

/-- the place of an index of any sign -/
def ixOf (n : Nat) (i : Int) : Option Nat := L2.ixN n i

def ixD (a b : W) (S : Store) : Option W :=
  match b with
  | .d (.int i) => match a with
    | .d (.str s) => if s.length ≤ line then (L2.atI s i).map fun c => .d (.str [c]) else none
    | .loc l => match S[l]? with
      | some (.lst xs) => (L2.atI xs i).map .d
      | some (.lsw ws) => L2.atI ws i
      | _ => none
    | a => match seqOf a S with
      | some (_, xs) => (L2.atI xs i).map .d
      | none => none
  | _ => none

def cut {α : Type} (xs : List α) (lo hi : Option Int) : List α := (xs.drop (_root_.HT.sIx xs.length 0 lo)).take (_root_.HT.sIx xs.length xs.length hi - _root_.HT.sIx xs.length 0 lo)

def slD (a : W) (lo hi : Option Int) (S : Store) : Option D :=
  match a with
  | .d (.str s) => if s.length ≤ line then some (.str (cut s lo hi)) else none
  | a => match seqOf a S with
    | some (.tup, xs) => some (.tup (cut xs lo hi))
    | some (.lst, xs) => some (.lst (cut xs lo hi))
    | none => none

def tyName (w : W) (S : Store) : Option Ty :=
  match w with
  | .d .non => some .none
  | .d (.bl _) => some .bool
  | .d (.int _) => some .int
  | .d (.str _) => some .str
  | .d (.tup _) => some .tuple
  | .d (.lst _) => some .list
  | .d (.dic _) => some .dict
  | .d (.obj c _) => some (.cls c)
  | .loc l => match S[l]? with
    | some (.lst _) => some .list
    | some (.lsw _) => some .list
    | some (.dct _) => some .dict
    | some (.ins c _) => some (.cls c)
    | _ => none
  | .scr _ => some .list
  | .exn c _ => some (.cls c)
  | _ => none
/-- is of the class -/
def tyIs (P : Prog) (t u : Ty) : Bool :=
  match t, u with
  | .bool, .int => true
  | .cls c, .cls e => match P.cls[c]? with
    | some k => k.sups.contains e
    | none => false
  | .cls c, .valueError => match P.cls[c]? with
    | some k => k.exc.isSome
    | none => false
  | t, u => decide (t = u)

def decI (i : Int) : List Nat := (Str.ofString (toString i)).cps.toList

def digitsOk : List Nat → Bool
  | [] => true
  | c :: cs => decide (48 ≤ c) && decide (c ≤ 57) && digitsOk cs
def decVal (cs : List Nat) : Nat := cs.foldl (fun acc c => acc * 10 + (c - 48)) 0

def allB : List D → Option Bool
  | [] => some true
  | .bl b :: r => (allB r).map (b && ·)
  | _ => none
def anyB : List D → Option Bool
  | [] => some false
  | .bl b :: r => (anyB r).map (b || ·)
  | _ => none
def intsOf : List D → Option (List Int)
  | [] => some []
  | .int i :: r => (intsOf r).map (i :: ·)
  | _ => none
def strsOf : List D → Option (List (List Nat))
  | [] => some []
  | .str i :: r => (strsOf r).map (i :: ·)
  | _ => none

/-- lists put behind one another -/
def lstsOf : List D → Option (List D)
  | [] => some []
  | .lst ys :: r => (lstsOf r).map (ys ++ ·)
  | _ => none
def biD (b : BI) (ws : List W) (S : Store) : Option D :=
  match b, ws with
  | .abs, [.d (.int i)] => some (.int (if i < 0 then -i else i))
  | .int, [.d (.int i)] => some (.int i)
  | .int, [.d (.bl k)] => some (.int (if k then 1 else 0))
  | .int, [.d (.str s)] => if s ≠ [] ∧ s.length ≤ 640 ∧ digitsOk s then some (.int (decVal s)) else none
  | .str, [.d (.int i)] => if i.natAbs.log2 < 1920 then some (.str (decI i)) else none
  | .str, [.d (.str s)] => some (.str s)
  | .len, [.d (.str s)] => if s.length ≤ line then some (.int s.length) else none
  | .len, [w] => (seqOf w S).map fun p => .int p.2.length
  | .list, [w] => (seqOf w S).map fun p => .lst p.2
  | .tuple, [w] => (seqOf w S).map fun p => .tup p.2
  | .all, [w] => (lstOf w S).bind fun xs => (allB xs).map .bl
  | .any, [w] => (lstOf w S).bind fun xs => (anyB xs).map .bl
  | .sum, [w] => match seqOf w S with
    | some (.lst, xs) => (intsOf xs).map fun ns => .int ns.sum
    | _ => none
  | .sum, [w, .d (.lst [])] => match seqOf w S with
    | some (.lst, xs) => (lstsOf xs).bind fun zs => if zs.length ≤ line then some (.lst zs) else none
    | _ => none
  | _, _ => none

/-! ### dicts: keys are numbers or texts -/
def keyD : D → Option L2.Key
  | .int i => some (.inl i)
  | .str s => some (.inr ⟨s.toArray⟩)
  | _ => none
def keq (a b : D) : Bool := match a, b with
  | .int i, .int j => decide (i = j)
  | .str s, .str t => decide (s = t)
  | _, _ => false
def dlook (kvs : List (D × D)) (k : D) : Option D := (kvs.find? fun p => keq p.1 k).map (·.2)
def dput (kvs : List (D × D)) (k x : D) : List (D × D) := if (kvs.any fun p => keq p.1 k) = true then kvs.map (fun p => if keq p.1 k = true then (p.1, x) else p) else kvs ++ [(k, x)]
/-- a dict of pairs -/
def dofP : List (D × D) → List D → Option (List (D × D))
  | acc, [] => some acc
  | acc, .tup [k, x] :: r => if (keyD k).isSome = true then dofP (dput acc k x) r else none
  | _, _ => none
/-- rising, as often as it is there -/
def insI (i : Int) : List Int → List Int
  | [] => [i]
  | j :: r => if i ≤ j then i :: j :: r else j :: insI i r
def sortI (ns : List Int) : List Int := ns.foldr insI []
/-- a written dict with texts as keys, looked up -/
def tabD (T : List (List Nat × D)) (s : List Nat) : Option D := (T.find? fun p => decide (p.1 = s)).map (·.2)
/-- a dict -/
def dicOf (w : W) (S : Store) : Option (List (D × D)) := match w with
  | .d (.dic kvs) => some kvs
  | .loc l => match S[l]? with
    | some (.dct kvs) => some kvs
    | _ => none
  | _ => none
/-- a dict looked up -/
def dgetD (w k : W) (S : Store) : Option (Option D) := match k with
  | .d k => if (keyD k).isSome then (dicOf w S).map fun kvs => dlook kvs k else none
  | _ => none
def joinL (sep : List Nat) : List (List Nat) → List Nat
  | [] => []
  | [x] => x
  | x :: y :: r => x ++ sep ++ joinL sep (y :: r)
/-- cut at each sign that is c -/
def splitL (c : Nat) : List Nat → List (List Nat)
  | [] => [[]]
  | x :: xs => if x = c then [] :: splitL c xs else match splitL c xs with
    | [] => [[x]]
    | p :: ps => (x :: p) :: ps

def isLoc (l : Nat) : W → Bool
  | .loc m => l == m
  | _ => false
/-- methods of built-in types -/
def bmD (m : BM) (o : W) (ws : List W) (S : Store) : Res W :=
  match m, o, ws with
  | .append, .loc l, [w] => match S[l]? with
    | some (.lst xs) => (toD w S).bind fun x S1 => match S1[l]? with
      | some (.lst xs) => if xs.length < line then .ok (.d .non) (S1.set l (.lst (xs ++ [x]))) else .stk
      | _ => .stk
    | _ => .stk
  | .extend, .loc l, [w] => match S[l]?, lstOf w S with
    | some (.lst xs), some zs => if xs.length + zs.length ≤ line ∧ isLoc l w = false then .ok (.d .non) (S.set l (.lst (xs ++ zs))) else .stk
    | _, _ => .stk
  | .pop, .loc l, [.d (.int i)] => match S[l]? with
    | some (.lst xs) => match L2.ixN xs.length i with
      | some k => match xs[k]? with
        | some x => .ok (.d x) (S.set l (.lst (xs.eraseIdx k)))
        | none => .stk
      | none => .stk
    | _ => .stk
  | .count, w, [.d x] => match lstOf w S with
    | some xs => if flatD x && xs.all flatD then .ok (.d (.int (xs.countP (eqF · x)))) S else .stk
    | none => .stk
  | .index, w, [.d x] => match lstOf w S with
    | some xs => if flatD x && xs.all flatD && xs.any (eqF · x) && decide (xs.length ≤ line) then .ok (.d (.int (xs.findIdx (eqF · x)))) S else .stk
    | none => .stk
  | .join, .d (.str s), [w] => match (seqOf w S).bind fun p => strsOf p.2 with
    | some ts => if (ts.map List.length).sum + ts.length * s.length ≤ 16777216 then .ok (.d (.str (joinL s ts))) S else .stk
    | none => .stk
  | .split, .d (.str s), [.d (.str [c])] => if s.length + 2 ≤ line ∧ c < 256 then .ok (.d (.lst ((splitL c s).map .str))) S else .stk
  | _, _, _ => .stk

end RI
/-! RIM: tuple * int where nothing is repeated: a count of 1, of 0, below 0, or an empty tuple. -/
namespace L2
open PySem PySem.Spec PyProof.Rows
theorem tuple_mulS (l : Addr) (items : Array Value) (n : Nat) (dd : Option Addr) (sl : Array (Option Value)) (x : Int) (u : Tok) (c0 : (decide (x < -(2 ^ 63)) || decide (x ≥ 2 ^ 63)) = false) (c1 : (items.isEmpty || x == 1) = true) :
    Meets (Builtin.«tuple.__mul__» ⟨[.ref l, .int x u], []⟩) (fun _ R s => s.heap.get? l = some { cls := .type "tuple", dict := dd, data := .seq items n, slots := sl } ∧
      R (.ok (.ret (Value.ref l))) s) :=
  .of_wp fun prog w A R s h => by
    obtain ⟨hp, g, d, tk, os⟩ := s
    obtain ⟨hl, h⟩ := h
    have f1 := AutoSeq1.idx_int
    wp_walk using wpAny_loadPart' hl
    repeat (first
      | (refine wpAny_ite_false (decide_eq_false (by rw [c0]; exact Bool.false_ne_true)) ?_; wp_walk using wpAny_loadPart' hl)
      | (refine wpAny_ite_true (decide_eq_true c1) ?_; wp_walk using wpAny_loadPart' hl))
    exact ⟨_, rfl, h⟩
theorem tuple_mul0 (l : Addr) (items : Array Value) (n : Nat) (dd : Option Addr) (sl : Array (Option Value)) (x : Int) (u : Tok) (c0 : (decide (x < -(2 ^ 63)) || decide (x ≥ 2 ^ 63)) = false) (c1 : (items.isEmpty || x == 1) = false) (c2 : (decide (x ≤ 0) || items.isEmpty) = true) :
    Meets (Builtin.«tuple.__mul__» ⟨[.ref l, .int x u], []⟩) (fun _ R s => s.heap.get? l = some { cls := .type "tuple", dict := dd, data := .seq items n, slots := sl } ∧
      R (.ok (.ret (Value.ref s.heap.objs.size))) { s with heap := s.heap.push { cls := Value.type "tuple", data := Data.seq #[] }, toks := s.toks }) :=
  .of_wp fun prog w A R s h => by
    obtain ⟨hp, g, d, tk, os⟩ := s
    obtain ⟨hl, h⟩ := h
    have f1 := AutoSeq1.idx_int
    wp_walk using wpAny_loadPart' hl
    repeat (first
      | (refine wpAny_ite_false (decide_eq_false (by rw [c0]; exact Bool.false_ne_true)) ?_; wp_walk using wpAny_loadPart' hl)
      | (refine wpAny_ite_false (decide_eq_false (by rw [c1]; exact Bool.false_ne_true)) ?_; wp_walk using wpAny_loadPart' hl)
      | (refine wpAny_ite_true (decide_eq_true c2) ?_; wp_walk using wpAny_loadPart' hl))
    exact ⟨_, rfl, h⟩
def rRep1 (K : PySem.W.Frag) : R2 := fun x y H Q => ∃ l k xs, x = .ref l ∧ y = .int k ∧ SqT K H l xs ∧ -(2 ^ 63) ≤ k ∧ k < 2 ^ 63 ∧
  ((xs = [] ∨ k = 1) → Q (.ref l) H) ∧ (xs ≠ [] → k ≤ 0 → ∀ p, H p = none → Q (.ref p) (upd H p (.tup []))) ∧ (xs = [] ∨ k ≤ 1)
section
variable {X : Cx}
theorem op_rep1 : OpR X (binaryOp .Mult) (rRep1 X.K) := by
  intro pins s σ H x y v u Q I rx ry h
  obtain ⟨l, k, xs, rfl, rfl, hT, h1, h2, q1, q2, hc⟩ := h
  cases rx
  obtain ⟨t, rfl⟩ := ry
  obtain ⟨its, r, ⟨⟨cls, dd, data, sl⟩, ho, hcl, n, hd⟩, hs⟩ := I.tuple hT
  simp only at hcl hd
  subst hcl hd
  have hle : its.length = xs.length := r.length.symm
  have c0 : (decide (k < -(2 ^ 63)) || decide (k ≥ 2 ^ 63)) = false := by
    rw [decide_eq_false (by omega), decide_eq_false (by omega)] <;> rfl
  by_cases hw : xs = [] ∨ k = 1
  · have c1 : (its.toArray.isEmpty || k == 1) = true := by
      rcases hw with hw | hw
      · subst hw
        cases its with
        | nil => rfl
        | cons a b => cases hle
      · subst hw; simp
    refine wpAny_binaryOp_repeat_ref (T := "tuple") (U := "int") (by decide) ⟨_, ho, rfl⟩ (fun s' => typeIs_int s' k t) noFill_tuple_mul F.fills_int_mul F.slot_int_rmul repeat_tuple F.slot_int_index.lookup
      (call_meets F.slot_int_rmul (typeIs_int s k t) F.entry_int_rmul (F.args_int_rmul_2 _ _) (int_rmul_tuple k t l its.toArray n dd sl)
        ⟨ho, rfl, ⟨_, ho, rfl⟩, call_meets F.slot_tuple_mul ⟨_, ho, rfl⟩ F.entry_tuple_mul (F.args_tuple_mul_2 _ _) (tuple_mulS l its.toArray n dd sl k t c0 c1) ⟨ho, ?_⟩⟩)
    exact ⟨.ref l, H, I, rfl, q1 hw⟩
  · have hx : xs ≠ [] := fun e => hw (.inl e)
    have hk : k ≤ 0 := by
      rcases hc with e | e
      · exact absurd e hx
      · have : k ≠ 1 := fun e => hw (.inr e)
        omega
    have hn : its ≠ [] := fun e => hx (by
      rw [e] at hle
      exact List.eq_nil_of_length_eq_zero hle.symm)
    have hi : its.toArray.isEmpty = false := by
      cases its with
      | nil => exact absurd rfl hn
      | cons a b => rfl
    have c1 : (its.toArray.isEmpty || k == 1) = false := by
      rw [hi, Bool.false_or]
      exact beq_eq_false_iff_ne.mpr (by omega)
    have c2 : (decide (k ≤ 0) || its.toArray.isEmpty) = true := by
      rw [decide_eq_true hk, Bool.true_or]
    refine wpAny_binaryOp_repeat_ref (T := "tuple") (U := "int") (by decide) ⟨_, ho, rfl⟩ (fun s' => typeIs_int s' k t) noFill_tuple_mul F.fills_int_mul F.slot_int_rmul repeat_tuple F.slot_int_index.lookup
      (call_meets F.slot_int_rmul (typeIs_int s k t) F.entry_int_rmul (F.args_int_rmul_2 _ _) (int_rmul_tuple k t l its.toArray n dd sl)
        ⟨ho, rfl, ⟨_, ho, rfl⟩, call_meets F.slot_tuple_mul ⟨_, ho, rfl⟩ F.entry_tuple_mul (F.args_tuple_mul_2 _ _) (tuple_mul0 l its.toArray n dd sl k t c0 c1 c2) ⟨ho, ?_⟩⟩)
    refine ⟨.ref s.heap.objs.size, _, I.laid (t' := s.toks) (o := .tup []) (fun b ob q => Heap.get?_push_of_some _ q) (Nat.le_refl _) ?_, rfl, q2 hx hk _ (I.hok.fresh (Nat.le_refl _))⟩
    exact ⟨Nat.zero_le _, _, .nil, IsTup.new _ _⟩
end
end L2
/-! RI2: the evaluator. -/
namespace RI
open PySem (Str)

inductive Src where
  | fix (xs : List D) | loc (l : Nat) (n : Nat)

/-- how a statement ends -/
inductive Flow where
  | nx (η : Env) | ret (w : W) | brk (η : Env) | cont (η : Env)

def noExc {α : Type} : Res α → Res α
  | .exc _ _ _ => .stk
  | r => r
@[simp] theorem noExc_ok {α : Type} (a : α) (S : Store) : noExc (.ok a S) = .ok a S := rfl
@[simp] theorem noExc_stk {α : Type} : noExc (.stk : Res α) = .stk := rfl

/-! ### loops -/
section
variable (set : W → Env → Store → Res Env) (tst : Env → Store → Res Bool) (elt : Env → Store → Res W)
/-- one turn of a comprehension -/
def lcTurn (η : Env) (x : D) (acc : List D) (S : Store) : Res (List D) :=
  (set (.d x) η S).bind fun η1 S1 => (tst η1 S1).bind fun b S2 =>
    if b = true then (elt η1 S2).bind fun w S3 => (toD w S3).bind fun y S4 => if acc.length < line then .ok (acc ++ [y]) S4 else .stk else .ok acc S2
def lcFix (η : Env) : List D → List D → Store → Res (List D)
  | [], acc, S => .ok acc S
  | x :: xs, acc, S => (lcTurn set tst elt η x acc S).bind fun acc1 S1 => lcFix η xs acc1 S1
def lcLoc (η : Env) (l : Nat) : Nat → Nat → List D → Store → Res (List D)
  | 0, i, acc, S => match S[l]? with
    | some (.lst ys) => if ys.length ≤ i then .ok acc S else .stk
    | _ => .stk
  | n + 1, i, acc, S => match S[l]? with
    | some (.lst ys) => match ys[i]? with
      | some x => (lcTurn set tst elt η x acc S).bind fun acc1 S1 => lcLoc η l n (i + 1) acc1 S1
      | none => .stk
    | _ => .stk
def lcSrc (η : Env) (src : Src) (S : Store) : Res (List D) :=
  match src with
  | .fix xs => lcFix set tst elt η xs [] S
  | .loc l n => lcLoc set tst elt η l n 0 [] S
end

/-! two fors: each turn of the outer one is a run of the inner one -/
section
variable (set : W → Env → Store → Res Env) (it2 : Env → Store → Res Src) (set2 : W → Env → Store → Res Env) (elt : Env → Store → Res W)
def lcIn (η : Env) (x : D) (acc : List D) (S : Store) : Res (List D) :=
  (set (.d x) η S).bind fun η1 S1 => (it2 η1 S1).bind fun src S2 => match src with
    | .fix ys => lcFix set2 (fun _ S => .ok true S) elt η1 ys acc S2
    | .loc _ _ => .stk
def lcFix2 (η : Env) : List D → List D → Store → Res (List D)
  | [], acc, S => .ok acc S
  | x :: xs, acc, S => (lcIn set it2 set2 elt η x acc S).bind fun acc1 S1 => lcFix2 η xs acc1 S1
def lcSrc2 (η : Env) (src : Src) (S : Store) : Res (List D) :=
  match src with
  | .fix xs => lcFix2 set it2 set2 elt η xs [] S
  | .loc _ _ => .stk
end

section
variable (set : W → Env → Store → Res Env) (body : Env → Store → Res Flow)
def forFix : List D → Env → Store → Res Flow
  | [], η, S => .ok (.nx η) S
  | x :: xs, η, S => (noExc (set (.d x) η S)).bind fun η1 S1 => (body η1 S1).bind fun f S2 => match f with
    | .nx η2 => forFix xs η2 S2
    | .cont η2 => forFix xs η2 S2
    | .brk η2 => .ok (.nx η2) S2
    | .ret w => .ok (.ret w) S2
def forLoc (l : Nat) : Nat → Nat → Env → Store → Res Flow
  | 0, i, η, S => match S[l]? with
    | some (.lst ys) => if ys.length ≤ i then .ok (.nx η) S else .stk
    | _ => .stk
  | n + 1, i, η, S => match S[l]? with
    | some (.lst ys) => match ys[i]? with
      | some x => (noExc (set (.d x) η S)).bind fun η1 S1 => (body η1 S1).bind fun f S2 => match f with
        | .nx η2 => forLoc l n (i + 1) η2 S2
        | .cont η2 => forLoc l n (i + 1) η2 S2
        | .brk η2 => .ok (.nx η2) S2
        | .ret w => .ok (.ret w) S2
      | none => .stk
    | _ => .stk
def forSrc (src : Src) (η : Env) (S : Store) : Res Flow :=
  match src with
  | .fix xs => forFix set body xs η S
  | .loc l n => forLoc set body l n 0 η S
end

def whileL (c : Env → Store → Res Bool) (body : Env → Store → Res Flow) : Nat → Env → Store → Res Flow
  | 0, _, _ => .stk
  | n + 1, η, S => (c η S).bind fun b S1 => if b = true then (body η S1).bind fun f S2 => match f with
      | .nx η2 => whileL c body n η2 S2
      | .cont η2 => whileL c body n η2 S2
      | .brk η2 => .ok (.nx η2) S2
      | .ret w => .ok (.ret w) S2
    else .ok (.nx η) S1

def wipeE (η : Env) : List Nat → Env
  | [] => η
  | v :: vs => (wipeE η vs).set v none

def getV (η : Env) (i : Nat) : Option W := match η[i]? with
  | some (some w) => some w
  | _ => none

/-- the class of an object -/
def clsOf (w : W) (S : Store) : Option Nat :=
  match w with
  | .d (.obj c _) => some c
  | .loc l => match S[l]? with
    | some (.ins c _) => some c
    | _ => none
  | _ => none
def IEs.len : IEs → Nat
  | .nil => 0
  | .cons _ es => es.len + 1
def lookN {α : Type} (k : Nat) : List (Nat × α) → Option α
  | [] => none
  | (j, x) :: r => if k = j then some x else lookN k r
def putN {α : Type} (k : Nat) (y : α) : List (Nat × α) → List (Nat × α)
  | [] => [(k, y)]
  | (j, x) :: r => if j = k then (j, y) :: r else (j, x) :: putN k y r
/-- an ordinary class -/
def ordC (P : Prog) (c : Nat) : Bool := match P.cls[c]? with
  | some k => k.exc.isNone
  | none => false
/-- what isinstance can be asked of -/
def tyOk0 (P : Prog) : Ty → Bool
  | .cls c => ordC P c
  | .valueError => false
  | _ => true
/-- the receiver of a built-in type's method -/
def recvOk (m : BM) (o : W) (S : Store) : Bool := match m with
  | .join => (o matches .d (.str _))
  | .split => (o matches .d (.str _))
  | _ => (lstOf o S).isSome
def fldD (P : Prog) (w : W) (f : Nat) (S : Store) : Option W :=
  match w with
  | .d (.obj c fs) => if ordC P c then (lookN f fs).map .d else none
  | .exn _ fs => (lookN f fs).map .d
  | .loc l => match S[l]? with
    | some (.ins c fs) => if ordC P c then lookN f fs else none
    | _ => none
  | _ => none

/-- ascending, each once -/
def insU (i : Int) : List Int → List Int
  | [] => [i]
  | j :: r => if i < j then i :: j :: r else if i = j then j :: r else j :: insU i r
def sortU (ns : List Int) : List Int := ns.foldr insU []
/-- what is asked of a set -/
def setD (o : SO) (w : W) (S : Store) : Option D := match o with
  | .sort => (seqOf w S).bind fun p => (intsOf p.2).bind fun ns => if ns.length < 4000 ∧ (sortU ns).length < 64 then some (.lst ((sortU ns).map .int)) else none
  | _ => none
/-- repr(x) -/
def reprD (w : W) : Option D := match w with
  | .d x => (toPD x).bind fun p => if PySem.PyData.showable p = true ∧ PySem.PyData.hasDict p = false ∧ p.depth ≤ 64 ∧ (PySem.PyData.shown p).length ≤ line then some (.str (PySem.PyData.shown p).cps.toList) else none
  | _ => none
/-- a comprehension's end -/
def finS (th : Bool) (acc : List D) (S : Store) : Res W := match th with
  | true => .ok (.loc S.length) (S ++ [.lst acc])
  | false => .ok (.d (.lst acc)) S
/-- the object has no field of that name -/
def noFld (m : Nat) (w : W) (S : Store) : Bool := match w with
  | .d (.obj _ fs) => (lookN m fs).isNone
  | .loc l => match S[l]? with
    | some (.ins _ fs) => (lookN m fs).isNone
    | _ => false
  | _ => false
/-- the method's def -/
def methOf (P : Prog) (m : Nat) (o : W) (n : Nat) (S : Store) : Option Nat :=
  match clsOf o S with
  | some c => match P.cls[c]? with
    | some k => match lookN m k.meths with
      | some f => match P.fns[f]? with
        | some fd => if ordC P c = true ∧ noFld m o S = true ∧ n + 1 = fd.np then some f else none
        | none => none
      | none => none
    | none => none
  | none => none
/-- a new list's cell -/
def thawD (w : W) (S : Store) : Res W :=
  match w with
  | .d (.lst xs) => .ok (.loc S.length) (S ++ [.lst xs])
  | .d (.dic kvs) => .ok (.loc S.length) (S ++ [.dct kvs])
  | _ => .stk

def setSub (o i w : W) (S : Store) : Res Unit :=
  match o, i with
  | .loc l, .d (.int k) => match S[l]? with
    | some (.lst xs) => match L2.ixN xs.length k with
      | some j => (toD w S).bind fun x S1 => match S1[l]? with
        | some (.lst xs) => .ok () (S1.set l (.lst (xs.set j x)))
        | _ => .stk
      | none => .stk
    | some (.lsw ws) => match L2.ixN ws.length k with
      | some j => .ok () (S.set l (.lsw (ws.set j w)))
      | none => .stk
    | _ => .stk
  | _, _ => .stk
/-- d[k] = w -/
def setDic (o i w : W) (S : Store) : Res Unit :=
  match o, i with
  | .loc l, .d k => if (keyD k).isSome = true then (match S[l]? with
    | some (.dct kvs) => if kvs.length < line then (match w with
      | .d x => .ok () (S.set l (.dct (dput kvs k x)))
      | _ => .stk) else .stk
    | _ => .stk) else .stk
  | _, _ => .stk
def setFld (P : Prog) (o : W) (f : Nat) (w : W) (S : Store) : Res Unit :=
  match o with
  | .loc l => match S[l]? with
    | some (.ins c fs) => if fs.length < 900 ∧ ordC P c then .ok () (S.set l (.ins c (putN f w fs))) else .stk
    | _ => .stk
  | _ => .stk

section
variable (C : Ctx)
/-- == and != where the left side is an object with an __eq__ of its own -/
def eqOwn (a b : W) (S : Store) : Option Nat :=
  match clsOf a S, clsOf b S with
  | some c, some c' => if c = c' then (match C.P.cls[c]? with
    | some k => lookN 0 k.meths
    | none => none) else none
  | _, _ => none
def ownEq (a : W) (S : Store) : Option Nat := match clsOf a S with
  | some c => match C.P.cls[c]? with
    | some k => lookN 0 k.meths
    | none => none
  | none => none
/-- the same, and where the right side is a tuple or None -/
def eqOwnE (a b : W) (S : Store) : Option Nat := match eqOwn C a b S with
  | some f => some f
  | none => match b with
    | .d (.tup _) => ownEq C a S
    | .d .non => ownEq C a S
    | _ => none
theorem eqOwnE_none {a b : W} {S : Store} (h : eqOwn C a b S = none) (h2 : ownEq C a S = none) : eqOwnE C a b S = none := by
  unfold eqOwnE
  rw [h]
  dsimp only
  split <;> first | exact h2 | rfl
@[simp] theorem eqOwnE_str (s : List Nat) (b : W) (S : Store) : eqOwnE C (.d (.str s)) b S = none := eqOwnE_none C rfl rfl
@[simp] theorem eqOwnE_int (s : Int) (b : W) (S : Store) : eqOwnE C (.d (.int s)) b S = none := eqOwnE_none C rfl rfl
@[simp] theorem eqOwnE_bl (s : Bool) (b : W) (S : Store) : eqOwnE C (.d (.bl s)) b S = none := eqOwnE_none C rfl rfl
@[simp] theorem eqOwnE_non (b : W) (S : Store) : eqOwnE C (.d .non) b S = none := eqOwnE_none C rfl rfl
@[simp] theorem eqOwnE_tup (s : List D) (b : W) (S : Store) : eqOwnE C (.d (.tup s)) b S = none := eqOwnE_none C rfl rfl
@[simp] theorem eqOwnE_lst (s : List D) (b : W) (S : Store) : eqOwnE C (.d (.lst s)) b S = none := eqOwnE_none C rfl rfl
@[simp] theorem eqOwnE_dic (s : List (D × D)) (b : W) (S : Store) : eqOwnE C (.d (.dic s)) b S = none := eqOwnE_none C rfl rfl
def cmpW (o : COp) (a b : W) (S : Store) : Res W :=
  match o with
  | .eq => match eqOwnE C a b S with
    | some f => (noExc (C.call f [a, b] S)).bind fun w S1 => match w with
      | .d (.bl k) => .ok (.d (.bl k)) S1
      | _ => .stk
    | none => (ofO (cmpD .eq a b S) S).bind fun k S1 => .ok (.d (.bl k)) S1
  | .ne => match eqOwn C a b S with
    | some f => (noExc (C.call f [a, b] S)).bind fun w S1 => match w with
      | .d (.bl k) => .ok (.d (.bl (!k))) S1
      | _ => .stk
    | none => (ofO (cmpD .ne a b S) S).bind fun k S1 => .ok (.d (.bl k)) S1
  | o => (ofO (cmpD o a b S) S).bind fun k S1 => .ok (.d (.bl k)) S1

/-- a new object -/
def mkW (c : Nat) (ws : List W) (S : Store) : Res W :=
  match C.P.cls[c]? with
  | some k => match k.init with
    | some f => (C.call f (.loc S.length :: ws) (S ++ [.ins c []])).bind fun w S1 => match w with
      | .d .non => if k.frozen then match S1[S.length]? with
          | some (.ins c' fs) => match wsD fs with
            | some ds => if c' = c ∧ belows S.length (S1.take S.length) ∧ S.length < S1.length then .ok (.d (.obj c ds)) (S1.take S.length) else .stk
            | none => .stk
          | _ => .stk
        else .ok (.loc S.length) S1
      | _ => .stk
    | none => .stk
  | none => .stk

def lineR : Int := 4611686018427387904
/-- isinstance can be asked of it: an object of an ordinary class, or the error that is handled -/
def isiOk (P : Prog) (w : W) (t : Ty) : Bool := match w with
  | .exn _ _ => true
  | _ => tyOk0 P t
@[simp] theorem isiOk_d (P : Prog) (x : D) (t : Ty) : isiOk P (.d x) t = tyOk0 P t := rfl
@[simp] theorem isiOk_loc (P : Prog) (l : Nat) (t : Ty) : isiOk P (.loc l) t = tyOk0 P t := rfl
@[simp] theorem isiOk_scr (P : Prog) (l : List Int) (t : Ty) : isiOk P (.scr l) t = tyOk0 P t := rfl
@[simp] theorem isiOk_exn (P : Prog) (c : Nat) (fs : List (Nat × D)) (t : Ty) : isiOk P (.exn c fs) t = true := rfl
/-- an error class -/
def excC (P : Prog) (c : Nat) : Bool := match P.cls[c]? with
  | some k => k.exc.isSome
  | none => false
def noExn : Env → Bool
  | [] => true
  | some (.exn _ _) :: _ => false
  | _ :: r => noExn r

abbrev VT := (Env → Store → Res W) × (Env → Store → Res Bool)
/-- a value, and its truth -/
def mkV (f : Env → Store → Res W) : VT := (f, fun η S => (f η S).bind fun x S1 => ofO (truthy x S1) S1)

mutual
/-- the value of an expression, and its worth as a test -/
def evalP : IE → VT
  | .var i => mkV fun η S => ofO (getV η i) S
  | .glob k => mkV fun _ S => (ofO C.P.consts[k]? S).bind fun x S => .ok (.d x) S
  | .fnv f => mkV fun _ S => .ok (.d (.fn f)) S
  | .non => mkV fun _ S => .ok (.d .non) S
  | .bl b => mkV fun _ S => .ok (.d (.bl b)) S
  | .int i => mkV fun _ S => .ok (.d (.int i)) S
  | .str s => mkV fun _ S => .ok (.d (.str s)) S
  | .tup es => mkV fun η S => (evalEs es η S).bind fun ws S1 => (toDs ws S1).bind fun xs S2 => .ok (.d (.tup xs)) S2
  | .lst es => mkV fun η S => (evalEs es η S).bind fun ws S1 => (toDs ws S1).bind fun xs S2 => .ok (.d (.lst xs)) S2
  | .dic0 => mkV fun _ S => .ok (.d (.dic [])) S
  | .bin o a b => mkV fun η S => ((evalP a).1 η S).bind fun x S1 => ((evalP b).1 η S1).bind fun y S2 => (ofO (binD o x y S2) S2).bind fun z S3 => .ok (.d z) S3
  | .neg a => mkV fun η S => ((evalP a).1 η S).bind fun x S1 => match x with
    | .d (.int i) => .ok (.d (.int (-i))) S1
    | _ => .stk
  | .not a => (fun η S => ((evalP a).1 η S).bind fun x S1 => (ofO (truthy x S1) S1).bind fun b S2 => .ok (.d (.bl (!b))) S2,
      fun η S => ((evalP a).2 η S).bind fun b S1 => .ok (!b) S1)
  | .cmp o a b => mkV fun η S => ((evalP a).1 η S).bind fun x S1 => ((evalP b).1 η S1).bind fun y S2 => cmpW C o x y S2
  | .cmpd o a b => mkV fun η S => ((evalP a).1 η S).bind fun x S1 => ((evalP b).1 η S1).bind fun y S2 => (ofO (cmpD o x y S2) S2).bind fun k S3 => .ok (.d (.bl k)) S3
  | .chain o o' a b c => mkV fun η S => ((evalP a).1 η S).bind fun x S1 => ((evalP b).1 η S1).bind fun y S2 => (ofO (cmpD o x y S2) S2).bind fun k S3 =>
      if k = true then ((evalP c).1 η S3).bind fun z S4 => (ofO (cmpD o' y z S4) S4).bind fun k' S5 => .ok (.d (.bl k')) S5 else .ok (.d (.bl false)) S3
  | .isn neg a => mkV fun η S => ((evalP a).1 η S).bind fun x S1 => match x with
    | .d .non => .ok (.d (.bl (!neg))) S1
    | _ => .ok (.d (.bl neg)) S1
  | .isb b a => mkV fun η S => ((evalP a).1 η S).bind fun x S1 => match x with
    | .d (.bl k) => .ok (.d (.bl (k == b))) S1
    | _ => .stk
  | .and es => evalAnd es
  | .or es => evalOr es
  | .ifx c a b => mkV fun η S => ((evalP c).2 η S).bind fun k S1 => if k = true then (evalP a).1 η S1 else (evalP b).1 η S1
  | .call f es => mkV fun η S => (evalEs es η S).bind fun ws S1 => C.call f ws S1
  | .callv i es => mkV fun η S => (ofO (getV η i) S).bind fun w S => match w with
    | .d (.fn f) => match C.P.fns[f]? with
      | some fd => (evalEs es η S).bind fun ws S1 => if ws.length = fd.np then C.call f ws S1 else .stk
      | none => .stk
    | _ => .stk
  | .meth e m es => mkV fun η S => ((evalP e).1 η S).bind fun o S1 => match methOf C.P m o es.len S1 with
    | some f => (evalEs es η S1).bind fun ws S2 => C.call f (o :: ws) S2
    | none => .stk
  | .mk c es => mkV fun η S => (evalEs es η S).bind fun ws S1 => mkW C c ws S1
  | .bi b es => mkV fun η S => (evalEs es η S).bind fun ws S1 => (ofO (biD b ws S1) S1).bind fun x S2 => .ok (.d x) S2
  | .bm e m es => mkV fun η S => ((evalP e).1 η S).bind fun o S1 => if recvOk m o S1 = true then (evalEs es η S1).bind fun ws S2 => bmD m o ws S2 else .stk
  | .fld e f => mkV fun η S => ((evalP e).1 η S).bind fun o S1 => ofO (fldD C.P o f S1) S1
  | .ix a b => mkV fun η S => ((evalP a).1 η S).bind fun x S1 => ((evalP b).1 η S1).bind fun y S2 => ofO (ixD x y S2) S2
  | .sl a lo hi => mkV fun η S => ((evalP a).1 η S).bind fun x S1 => (evalO lo η S1).bind fun l S2 => (evalO hi η S2).bind fun h S3 => (ofO (slD x l h S3) S3).bind fun z S4 => .ok (.d z) S4
  | .lc e own t it ifs => mkV fun η S => noExc ((evalI it η S).bind fun src S1 => (lcSrc (setT t) (evalC ifs) (evalP e).1 (wipeE η own) src S1).bind fun xs S2 => .ok (.d (.lst xs)) S2)
  | .isi e ts => mkV fun η S => ((evalP e).1 η S).bind fun x S1 => (ofO (tyName x S1) S1).bind fun t S2 => if isiOk C.P x t = true then .ok (.d (.bl (ts.any fun u => tyIs C.P t u))) S2 else .stk
  | .rep a => mkV fun η S => ((evalP a).1 η S).bind fun w S1 => (ofO (reprD w) S1).bind fun z S2 => .ok (.d z) S2
  | .lrng a => mkV fun η S => ((evalP a).1 η S).bind fun w S1 => match w with
    | .d (.int n) => if -lineR ≤ n ∧ n < 16777216 then .ok (.d (.lst ((List.range n.toNat).map fun i => .int (i : Nat)))) S1 else .stk
    | _ => .stk
  | .isx e t => mkV fun η S => ((evalP e).1 η S).bind fun x S1 => match x with
    | .exn c _ => if excC C.P c = true then .ok (.d (.bl (tyIs C.P (.cls c) t))) S1 else .stk
    | _ => .stk
  | .flx e f => mkV fun η S => ((evalP e).1 η S).bind fun x S1 => match x with
    | .exn c fs => if excC C.P c = true then (ofO (lookN f fs) S1).bind fun z S2 => .ok (.d z) S2 else .stk
    | _ => .stk
  | .lsw es => mkV fun η S => (evalEs es η S).bind fun ws S1 => .ok (.loc S1.length) (S1 ++ [.lsw ws])
  | .dic1 a b => mkV fun η S => ((evalP a).1 η S).bind fun x S1 => ((evalP b).1 η S1).bind fun y S2 => match x with
    | .d (.int i) => (toD y S2).bind fun z S3 => .ok (.d (.dic [(.int i, z)])) S3
    | _ => .stk
  | .setop o a => mkV fun η S => ((evalP a).1 η S).bind fun x S1 => (ofO (setD o x S1) S1).bind fun z S2 => .ok (.d z) S2
  | .lc2 e own t it t2 it2 => mkV fun η S => noExc ((evalI it η S).bind fun src S1 => (lcSrc2 (setT t) (evalI it2) (setT t2) (evalP e).1 (wipeE η own) src S1).bind fun xs S2 => .ok (.d (.lst xs)) S2)
  | .dix a b => mkV fun η S => ((evalP a).1 η S).bind fun x S1 => ((evalP b).1 η S1).bind fun y S2 => match dgetD x y S2 with
    | some (some z) => .ok (.d z) S2
    | _ => .stk
  | .din neg b a => mkV fun η S => ((evalP b).1 η S).bind fun y S1 => ((evalP a).1 η S1).bind fun x S2 => match dgetD x y S2 with
    | some o => .ok (.d (.bl (if neg then !o.isSome else o.isSome))) S2
    | none => .stk
  | .dget a b c => mkV fun η S => ((evalP a).1 η S).bind fun x S1 => if (dicOf x S1).isSome = true then ((evalP b).1 η S1).bind fun y S2 => ((evalP c).1 η S2).bind fun z S3 => match dgetD x y S3, z with
    | some o, .d z => .ok (.d (o.getD z)) S3
    | _, _ => .stk else .stk
  | .dkeys a => mkV fun η S => ((evalP a).1 η S).bind fun x S1 => match dicOf x S1 with
    | some kvs => .ok (.d (.lst (kvs.map (·.1)))) S1
    | none => .stk
  | .dlen a => mkV fun η S => ((evalP a).1 η S).bind fun x S1 => match dicOf x S1 with
    | some kvs => .ok (.d (.int kvs.length)) S1
    | none => .stk
  | .srt a => mkV fun η S => ((evalP a).1 η S).bind fun x S1 => match (lstOf x S1).bind intsOf with
    | some ns => if ns.length < 64 then .ok (.d (.lst ((sortI ns).map .int))) S1 else .stk
    | none => .stk
  | .rev a => mkV fun η S => ((evalP a).1 η S).bind fun x S1 => match x with
    | .d (.tup xs) => if xs.length ≤ 1000 then .ok (.d (.tup xs.reverse)) S1 else .stk
    | .d (.lst xs) => if xs.length ≤ 1000 then .ok (.d (.lst xs.reverse)) S1 else .stk
    | _ => .stk
  | .kget k a d => mkV fun η S => ((evalP a).1 η S).bind fun x S1 => match x with
    | .d (.str s) => ((evalP d).1 η S1).bind fun z S2 => match z, C.P.tabs[k]? with
      | .d z, some T => .ok (.d ((tabD T s).getD z)) S2
      | _, _ => .stk
    | _ => .stk
  | .kin k neg a => mkV fun η S => ((evalP a).1 η S).bind fun x S1 => match x, C.P.tabs[k]? with
    | .d (.str s), some T => .ok (.d (.bl (if neg then !(tabD T s).isSome else (tabD T s).isSome))) S1
    | _, _ => .stk
  | .kix k a => mkV fun η S => ((evalP a).1 η S).bind fun x S1 => match x, C.P.tabs[k]? with
    | .d (.str s), some T => (ofO (tabD T s) S1).bind fun z S2 => .ok (.d z) S2
    | _, _ => .stk
  | .dpr a => mkV fun η S => ((evalP a).1 η S).bind fun x S1 => match (lstOf x S1).bind (dofP []) with
    | some kvs => .ok (.d (.dic kvs)) S1
    | none => .stk
  | .dnew => mkV fun _ S => .ok (.loc S.length) (S ++ [.dct []])
  | .thaw e => mkV fun η S => ((evalP e).1 η S).bind fun w S1 => thawD w S1
termination_by structural x => x
def evalEs : IEs → Env → Store → Res (List W)
  | .nil => fun _ S => .ok [] S
  | .cons e es => fun η S => ((evalP e).1 η S).bind fun w S1 => (evalEs es η S1).bind fun ws S2 => .ok (w :: ws) S2
termination_by structural x => x
def evalAnd : IEs → VT
  | .nil => (fun _ _ => .stk, fun _ _ => .stk)
  | .cons e .nil => evalP e
  | .cons e (.cons e2 r) => (fun η S => ((evalP e).1 η S).bind fun x S1 => (ofO (truthy x S1) S1).bind fun k S2 => if k = true then (evalAnd (.cons e2 r)).1 η S2 else .ok x S2,
      fun η S => ((evalP e).2 η S).bind fun k S1 => if k = true then (evalAnd (.cons e2 r)).2 η S1 else .ok false S1)
termination_by structural x => x
def evalOr : IEs → VT
  | .nil => (fun _ _ => .stk, fun _ _ => .stk)
  | .cons e .nil => evalP e
  | .cons e (.cons e2 r) => (fun η S => ((evalP e).1 η S).bind fun x S1 => (ofO (truthy x S1) S1).bind fun k S2 => if k = true then .ok x S2 else (evalOr (.cons e2 r)).1 η S2,
      fun η S => ((evalP e).2 η S).bind fun k S1 => if k = true then .ok true S1 else (evalOr (.cons e2 r)).2 η S1)
termination_by structural x => x
def evalO : IO → Env → Store → Res (Option Int)
  | .no => fun _ S => .ok none S
  | .yes e => fun η S => ((evalP e).1 η S).bind fun w S1 => match w with
    | .d (.int i) => .ok (some i) S1
    | _ => .stk
termination_by structural x => x
/-- a comprehension's test -/
def evalC : IO → Env → Store → Res Bool
  | .no => fun _ S => .ok true S
  | .yes e => (evalP e).2
termination_by structural x => x
def evalI : II → Env → Store → Res Src
  | .seq e => fun η S => ((evalP e).1 η S).bind fun w S1 => match w with
    | .loc l => match S1[l]? with
      | some (.lst ys) => .ok (.loc l ys.length) S1
      | _ => .stk
    | .d (.str s) => .ok (.fix (s.map fun c => .str [c])) S1
    | w => match seqOf w S1 with
      | some (_, xs) => .ok (.fix xs) S1
      | none => .stk
  | .rng a => fun η S => ((evalP a).1 η S).bind fun w S1 => match w with
    | .d (.int n) => if -lineR ≤ n ∧ n < lineR then .ok (.fix ((List.range n.toNat).map fun i => .int (i : Nat))) S1 else .stk
    | _ => .stk
  | .rng2 a b => fun η S => ((evalP a).1 η S).bind fun w S1 => ((evalP b).1 η S1).bind fun u S2 => match w, u with
    | .d (.int i), .d (.int n) => if (-lineR ≤ i ∧ i < lineR) ∧ -lineR ≤ n ∧ n < lineR then .ok (.fix ((List.range (n - i).toNat).map fun (k : Nat) => .int (i + k))) S2 else .stk
    | _, _ => .stk
  | .rngd a b => fun η S => ((evalP a).1 η S).bind fun w S1 => ((evalP b).1 η S1).bind fun u S2 => match w, u with
    | .d (.int i), .d (.int n) => if (-1000000 ≤ i ∧ i < 1000000) ∧ -1000000 ≤ n ∧ n < 1000000 then .ok (.fix ((List.range (i - n).toNat).map fun (k : Nat) => .int (i + k * -1))) S2 else .stk
    | _, _ => .stk
  | .enum e => fun η S => ((evalP e).1 η S).bind fun w S1 => match w with
    | .loc _ => .stk
    | w => match seqOf w S1 with
      | some (_, xs) => .ok (.fix (xs.mapIdx fun i x => .tup [.int (i : Nat), x])) S1
      | none => .stk
  | .zip a b => fun η S => ((evalP a).1 η S).bind fun w S1 => ((evalP b).1 η S1).bind fun u S2 => match w, u with
    | .d x, .d y => match seqOf (.d x) S2, seqOf (.d y) S2 with
      | some (_, xs), some (_, ys) => .ok (.fix ((xs.zip ys).map fun p => .tup [p.1, p.2])) S2
      | _, _ => .stk
    | _, _ => .stk
termination_by structural x => x
/-- target = value -/
def setT : IT → W → Env → Store → Res Env
  | .nm i => fun w η S => if i < η.length then .ok (η.set i (some w)) S else .stk
  | .tup ts => fun w η S => match seqOf w S with
    | some (.tup, xs) => setTs ts xs η S
    | _ => .stk
  | .sub o i => fun w η S => ((evalP o).1 η S).bind fun x S1 => ((evalP i).1 η S1).bind fun k S2 => (setSub x k w S2).bind fun _ S3 => .ok η S3
  | .fld o f => fun w η S => ((evalP o).1 η S).bind fun x S1 => (setFld C.P x f w S1).bind fun _ S2 => .ok η S2
  | .dsub o i => fun w η S => ((evalP o).1 η S).bind fun x S1 => ((evalP i).1 η S1).bind fun k S2 => (setDic x k w S2).bind fun _ S3 => .ok η S3
termination_by structural x => x
def setTs : ITs → List D → Env → Store → Res Env
  | .nil => fun xs η S => match xs with
    | [] => .ok η S
    | _ => .stk
  | .cons t ts => fun xs η S => match xs with
    | x :: xs => (setT t (.d x) η S).bind fun η1 S1 => setTs ts xs η1 S1
    | [] => .stk
termination_by structural x => x
end
def evalE (e : IE) : Env → Store → Res W := (evalP C e).1
def evalT (e : IE) : Env → Store → Res Bool := (evalP C e).2

/-- names get values -/
def setNs : List Nat → List W → Env → Option Env
  | [], [], η => some η
  | i :: is, w :: ws, η => if i < η.length then setNs is ws (η.set i (some w)) else none
  | _, _, _ => none

def fieldsOf : List Nat → List W → Option (List (Nat × D))
  | [], [] => some []
  | f :: fs, .d x :: ws => (fieldsOf fs ws).map ((f, x) :: ·)
  | _, _ => none

mutual
def execS : IS → Env → Store → Res Flow
  | .expr e, η, S => (evalE C e η S).bind fun _ S1 => .ok (.nx η) S1
  | .ret e, η, S => (evalE C e η S).bind fun w S1 => .ok (.ret w) S1
  | .retN, _, S => .ok (.ret (.d .non)) S
  | .pass, η, S => .ok (.nx η) S
  | .brk, η, S => .ok (.brk η) S
  | .cont, η, S => .ok (.cont η) S
  | .asg t e, η, S => (evalE C e η S).bind fun w S1 => (noExc (setT C t w η S1)).bind fun η1 S2 => .ok (.nx η1) S2
  | .par is es, η, S => (evalEs C es η S).bind fun ws S1 => (ofO (setNs is ws η) S1).bind fun η1 S2 => .ok (.nx η1) S2
  | .aug i o e, η, S => (ofO (getV η i) S).bind fun x S => (evalE C e η S).bind fun y S1 => (ofO (binD o x y S1) S1).bind fun z S2 =>
      if i < η.length then .ok (.nx (η.set i (some (.d z)))) S2 else .stk
  | .ife c a b, η, S => (evalT C c η S).bind fun k S1 => if k = true then execSs a η S1 else execSs b η S1
  | .for_ t it b, η, S => (evalI C it η S).bind fun src S1 => forSrc (setT C t) (execSs b) src η S1
  | .whl c b, η, S => whileL (evalT C c) (execSs b) C.fu η S
  | .raise c es, η, S => (evalEs C es η S).bind fun ws S1 => match C.P.cls[c]? with
    | some k => match k.exc with
      | some fs => match fieldsOf fs ws with
        | some ds => .exc c ds S1
        | none => .stk
      | none => .stk
    | none => .stk
  | .tryx body c i suite, η, S => match execB body η S with
    | .exc c' fs S1 => if excC C.P c' = true ∧ i < η.length then (if tyIs C.P (.cls c') (.cls c) = true then
        (noExc (execSs suite (η.set i (some (.exn c' fs))) S1)).bind fun f S2 => match f with
          | .nx η1 => if noExn (η1.set i none) = true then .ok (.nx (η1.set i none)) S2 else .stk
          | _ => .stk
      else .exc c' fs S1) else .stk
    | r => r
  | .tryo body c suite, η, S => match execB body η S with
    | .exc c' fs S1 => if excC C.P c' = true then (if tyIs C.P (.cls c') (.cls c) = true then
        (noExc (execSs suite η S1)).bind fun f S2 => match f with
          | .nx η1 => .ok (.nx η1) S2
          | _ => .stk
      else .exc c' fs S1) else .stk
    | r => r
termination_by structural x => x
def execSs : ISs → Env → Store → Res Flow
  | .nil, η, S => .ok (.nx η) S
  | .cons s ss, η, S => (execS s η S).bind fun f S1 => match f with
    | .nx η1 => execSs ss η1 S1
    | f => .ok f S1
termination_by structural x => x
def execB : IB → Env → Store → Res Flow
  | .one s rest, η, S => (execS s η S).bind fun f S1 => match f with
    | .nx η1 => noExc (execSs rest η1 S1)
    | f => .ok f S1
  | .ifb c a b rest, η, S => ((evalT C c η S).bind fun k S1 => if k = true then execB a η S1 else execB b η S1).bind fun f S1 => match f with
    | .nx η1 => noExc (execSs rest η1 S1)
    | f => .ok f S1
termination_by structural x => x
end
end

/-! ### calls -/
def freeze (n : Nat) (w : W) (S : Store) : Option W :=
  match w with
  | .d x => some (.d x)
  | .loc l => if l < n then some (.loc l) else (S[l]?.bind cellD).map .d
  | _ => none
/-- a def's end: what it made for itself is let go -/
def close (keep : Bool) (n : Nat) (w : W) (S : Store) : Res W :=
  if keep then .ok w S else if belows n (S.take n) ∧ n ≤ S.length then (match freeze n w S with
    | some v => .ok v (S.take n)
    | none => .stk) else .stk
def finish (keep : Bool) (n : Nat) (r : Res Flow) : Res W :=
  match r with
  | .ok (.nx _) S => close keep n (.d .non) S
  | .ok (.ret w) S => close keep n w S
  | .exc c fs S => if keep then .exc c fs S else if belows n (S.take n) ∧ n ≤ S.length then .exc c fs (S.take n) else .stk
  | _ => .stk
def startE (nl : Nat) (ws : List W) : Env := ws.map some ++ List.replicate (nl - ws.length) none
def callF (P : Prog) (fu : Nat) : Nat → Nat → List W → Store → Res W
  | 0, _, _, _ => .stk
  | n + 1, f, ws, S => match P.fns[f]? with
    | some fd => if ws.length = fd.np then finish fd.keep S.length (execSs ⟨callF P fu n, P, fu⟩ fd.body (startE fd.N.length ws) S) else .stk
    | none => .stk
end RI
/-! RI3: what stands in the heap for data, cells, names; how it is kept. -/
namespace RI
open PySem PySem.Spec PyProof.Rows L2
abbrev St := L2.St

structure Wd where
  K : PySem.W.Frag
  ca : Nat → Addr
  fa : Nat → Addr
  nm : Nat → Str
/-- where the cells stand, and what is held aside: it is never looked at, nor changed -/
structure Rho where
  l : List Addr
  F : Addr → Prop
def Rho.app (ρ : Rho) (t : List Addr) : Rho := ⟨ρ.l ++ t, ρ.F⟩
@[simp] theorem Rho.app_nil (ρ : Rho) : ρ.app [] = ρ := by cases ρ; simp [Rho.app]
@[simp] theorem Rho.app_app (ρ : Rho) (t u : List Addr) : (ρ.app t).app u = ρ.app (t ++ u) := by simp [Rho.app]
/-- the error that is handled here -/
abbrev Ex := Option (Addr × Value × Option Addr)

/-- the script's list -/
def ScrL (K : PySem.W.Frag) (H : Hp) (a : Addr) (xs : List V) : Prop :=
  (∃ o, H a = some (.frz o (.lst xs))) ∨
    ∃ (o : Obj) (its : Array Value) (n : Nat), K.lookup a = some o ∧ o.cls = .type "list" ∧ o.dict = none ∧ o.data = .seq its n ∧ its.size ≤ sizeLine ∧ Vals xs its.toList
theorem ScrL.sq {K : PySem.W.Frag} {H : Hp} {a : Addr} {xs : List V} (h : ScrL K H a xs) : SqL K H a xs := by
  rcases h with ⟨o, h⟩ | h
  · exact .inl (.inr ⟨o, h⟩)
  · exact .inr h
abbrev Str' (s : List Nat) : Str := ⟨s.toArray⟩

mutual
inductive RelD (G : Wd) (L : Addr → Prop) (H : Hp) : D → V → Prop where
  | non : RelD G L H .non .non
  | bl (b : Bool) : RelD G L H (.bl b) (.bl b)
  | int (i : Int) : RelD G L H (.int i) (.int i)
  | str (s : List Nat) : RelD G L H (.str s) (.str (Str' s))
  | tup {a : Addr} {vs : List V} {xs : List D} : SqT G.K H a vs → RelDs G L H xs vs → RelD G L H (.tup xs) (.ref a)
  | lst {a : Addr} {vs : List V} {xs : List D} : H a = some (.lst vs) → ¬ L a → RelDs G L H xs vs → RelD G L H (.lst xs) (.ref a)
  | dic {a : Addr} {kvs : List (D × D)} {ks : List (Key × V)} : H a = some (.dK ks) → ¬ L a → RelKs G L H kvs ks → RelD G L H (.dic kvs) (.ref a)
  | obj {a dx : Addr} {c : Nat} {fs : List (Nat × D)} {vs : List (Str × V)} : H a = some (.ins (G.ca c) dx vs) → ¬ L a → RelFs G L H fs vs → RelD G L H (.obj c fs) (.ref a)
  | fn (f : Nat) : RelD G L H (.fn f) (.ref (G.fa f))
inductive RelDs (G : Wd) (L : Addr → Prop) (H : Hp) : List D → List V → Prop where
  | nil : RelDs G L H [] []
  | cons {x : D} {v : V} {xs : List D} {vs : List V} : RelD G L H x v → RelDs G L H xs vs → RelDs G L H (x :: xs) (v :: vs)
inductive RelFs (G : Wd) (L : Addr → Prop) (H : Hp) : List (Nat × D) → List (Str × V) → Prop where
  | nil : RelFs G L H [] []
  | cons {f : Nat} {x : D} {v : V} {fs : List (Nat × D)} {vs : List (Str × V)} : RelD G L H x v → RelFs G L H fs vs → RelFs G L H ((f, x) :: fs) ((G.nm f, v) :: vs)
inductive RelKs (G : Wd) (L : Addr → Prop) (H : Hp) : List (D × D) → List (Key × V) → Prop where
  | nil : RelKs G L H [] []
  | cons {k x : D} {key : Key} {v : V} {kvs : List (D × D)} {ks : List (Key × V)} : keyD k = some key → RelD G L H x v → RelKs G L H kvs ks → RelKs G L H ((k, x) :: kvs) ((key, v) :: ks)
end

inductive RelW (G : Wd) (ex : Ex) (L : Addr → Prop) (ρ : Rho) (H : Hp) : W → V → Prop where
  | d {x : D} {v : V} : RelD G L H x v → RelW G ex L ρ H (.d x) v
  | loc {l : Nat} {a : Addr} : ρ.l[l]? = some a → RelW G ex L ρ H (.loc l) (.ref a)
  | scr {ns : List Int} {a : Addr} : ScrL G.K H a (ns.map V.int) → RelW G ex L ρ H (.scr ns) (.ref a)
  | exn {c : Nat} {fs : List (Nat × D)} {a : Addr} {dx : Option Addr} {vs : List (Str × V)} : ex = some (a, .ref (G.ca c), dx) →
      (∀ d, dx = some d → H d = some (.xd vs) ∧ ¬ L d) → (dx = none → vs = []) → RelFs G L H fs vs → RelW G ex L ρ H (.exn c fs) (.ref a)
inductive RelWs (G : Wd) (ex : Ex) (L : Addr → Prop) (ρ : Rho) (H : Hp) : List W → List V → Prop where
  | nil : RelWs G ex L ρ H [] []
  | cons {w : W} {v : V} {ws : List W} {vs : List V} : RelW G ex L ρ H w v → RelWs G ex L ρ H ws vs → RelWs G ex L ρ H (w :: ws) (v :: vs)
inductive RelFw (G : Wd) (L : Addr → Prop) (ρ : Rho) (H : Hp) : List (Nat × W) → List (Str × V) → Prop where
  | nil : RelFw G L ρ H [] []
  | cons {f : Nat} {w : W} {v : V} {fs : List (Nat × W)} {vs : List (Str × V)} : RelW G none L ρ H w v → RelFw G L ρ H fs vs → RelFw G L ρ H ((f, w) :: fs) ((G.nm f, v) :: vs)

inductive RelC (G : Wd) (L : Addr → Prop) (ρ : Rho) (H : Hp) : Cell → Addr → Prop where
  | lst {a : Addr} {xs : List D} {vs : List V} : H a = some (.lst vs) → RelDs G L H xs vs → RelC G L ρ H (.lst xs) a
  | lsw {a : Addr} {ws : List W} {vs : List V} : H a = some (.lst vs) → RelWs G none L ρ H ws vs → RelC G L ρ H (.lsw ws) a
  | dct {a : Addr} {kvs : List (D × D)} {ks : List (Key × V)} : H a = some (.dK ks) → RelKs G L H kvs ks → RelC G L ρ H (.dct kvs) a
  | ins {a dx : Addr} {c : Nat} {fs : List (Nat × W)} {vs : List (Str × V)} : H a = some (.ins (G.ca c) dx vs) → RelFw G L ρ H fs vs → RelC G L ρ H (.ins c fs) a
  | dead {a : Addr} : RelC G L ρ H .dead a

def alive : Cell → Bool
  | .dead => false
  | _ => true
def Live (ρ : Rho) (S : Store) (a : Addr) : Prop := ρ.F a ∨ ∃ (l : Nat) (c : Cell), S[l]? = some c ∧ alive c = true ∧ ρ.l[l]? = some a

structure RelS (G : Wd) (ρ : Rho) (S : Store) (H : Hp) : Prop where
  len : ρ.l.length = S.length
  nd : ρ.l.Nodup
  cell : ∀ (l : Nat) (c : Cell) (a : Addr), S[l]? = some c → ρ.l[l]? = some a → RelC G (Live ρ S) ρ H c a
  dom : ∀ a ∈ ρ.l, H a ≠ none
  res : ∀ a, ρ.F a → H a ≠ none ∧ a ∉ ρ.l

structure RelAll (G : Wd) (ex : Ex) (ρ : Rho) (η : Env) (S : Store) (σ : St) (H : Hp) : Prop where
  st : RelS G ρ S H
  len : η.length = σ.length
  slot : ∀ (i : Nat) (w : W), η[i]? = some (some w) → ∃ v, σ[i]? = some (some v) ∧ RelW G ex (Live ρ S) ρ H w v

def Solid : HO → Prop
  | .tup _ => True
  | .frz _ _ => True
  | _ => False

structure Ext (ρ : Rho) (S : Store) (H : Hp) (ρ' : Rho) (S' : Store) (H' : Hp) : Prop where
  pre : ∃ t, ρ' = ρ.app t
  keep : ∀ a o, H a = some o → (Live ρ S a → Solid o) → H' a = some o
  new : ∀ a, Live ρ' S' a → Live ρ S a ∨ H a = none
  dom : ∀ a, H a ≠ none → H' a ≠ none
  res : ∀ a, ρ.F a → H a ≠ none → H' a = H a

section
variable {G : Wd} {ex : Ex} {ρ ρ1 ρ2 : Rho} {S S1 S2 : Store} {H H1 H2 : Hp} {L L' : Addr → Prop}
theorem Ext.refl : Ext ρ S H ρ S H := ⟨⟨[], by simp⟩, fun _ _ e _ => e, fun _ h => .inl h, fun _ h => h, fun _ _ _ => rfl⟩
theorem Ext.trans (a : Ext ρ S H ρ1 S1 H1) (b : Ext ρ1 S1 H1 ρ2 S2 H2) : Ext ρ S H ρ2 S2 H2 := by
  obtain ⟨t, e⟩ := a.pre
  obtain ⟨u, e'⟩ := b.pre
  refine ⟨⟨t ++ u, by rw [e', e, Rho.app_app]⟩, fun x o h hl => ?_, fun x h => ?_, fun x h => b.dom x (a.dom x h), fun x f h => (b.res x (by rw [e]; exact f) (a.dom x h)).trans (a.res x f h)⟩
  · refine b.keep x o (a.keep x o h hl) fun h1 => ?_
    rcases a.new x h1 with z | z
    · exact hl z
    · rw [z] at h; cases h
  · rcases b.new x h with z | z
    · exact a.new x z
    · right
      cases e : H x with
      | none => rfl
      | some o => exact absurd z (a.dom x (by rw [e]; simp))

/-- how data are kept: K the heap, L the cells -/
structure Kp (L : Addr → Prop) (H : Hp) (L' : Addr → Prop) (H' : Hp) : Prop where
  keep : ∀ a o, H a = some o → (L a → Solid o) → H' a = some o
  new : ∀ a, L' a → L a ∨ H a = none
theorem Ext.kp (a : Ext ρ S H ρ1 S1 H1) : Kp (Live ρ S) H (Live ρ1 S1) H1 := ⟨a.keep, a.new⟩
theorem Kp.out (k : Kp L H L' H1) {a : Addr} {o : HO} (h : H a = some o) (n : ¬ L a) : ¬ L' a := fun q => by
  rcases k.new a q with z | z
  · exact n z
  · rw [z] at h; cases h
theorem Kp.sqT (k : Kp L H L' H1) {K : PySem.W.Frag} {a : Addr} {vs : List V} (h : SqT K H a vs) : SqT K H1 a vs := by
  rcases h with (h | ⟨o, h⟩) | h
  · exact .inl (.inl (k.keep a _ h fun _ => trivial))
  · exact .inl (.inr ⟨o, k.keep a _ h fun _ => trivial⟩)
  · exact .inr h
mutual
theorem RelD.mono (k : Kp L H L' H1) : ∀ {x : D} {v : V}, RelD G L H x v → RelD G L' H1 x v
  | _, _, .non => .non
  | _, _, .bl b => .bl b
  | _, _, .int i => .int i
  | _, _, .str s => .str s
  | _, _, .tup h hs => .tup (k.sqT h) (RelDs.mono k hs)
  | _, _, .lst h n hs => .lst (k.keep _ _ h fun z => absurd z n) (k.out h n) (RelDs.mono k hs)
  | _, _, .dic h n hs => .dic (k.keep _ _ h fun z => absurd z n) (k.out h n) (RelKs.mono k hs)
  | _, _, .obj h n hs => .obj (k.keep _ _ h fun z => absurd z n) (k.out h n) (RelFs.mono k hs)
  | _, _, .fn f => .fn f
theorem RelDs.mono (k : Kp L H L' H1) : ∀ {xs : List D} {vs : List V}, RelDs G L H xs vs → RelDs G L' H1 xs vs
  | _, _, .nil => .nil
  | _, _, .cons h hs => .cons (RelD.mono k h) (RelDs.mono k hs)
theorem RelFs.mono (k : Kp L H L' H1) : ∀ {fs : List (Nat × D)} {vs : List (Str × V)}, RelFs G L H fs vs → RelFs G L' H1 fs vs
  | _, _, .nil => .nil
  | _, _, .cons h hs => .cons (RelD.mono k h) (RelFs.mono k hs)
theorem RelKs.mono (k : Kp L H L' H1) : ∀ {fs : List (D × D)} {vs : List (Key × V)}, RelKs G L H fs vs → RelKs G L' H1 fs vs
  | _, _, .nil => .nil
  | _, _, .cons e h hs => .cons e (RelD.mono k h) (RelKs.mono k hs)
end
theorem pre_get {ρ : Rho} {t : List Addr} {l : Nat} {a : Addr} (h : ρ.l[l]? = some a) : (ρ.app t).l[l]? = some a := by
  show (ρ.l ++ t)[l]? = some a
  rw [List.getElem?_append_left (List.getElem?_eq_some_iff.mp h).1]
  exact h
theorem RelW.mono (k : Kp L H L' H1) (p : ∃ t, ρ1 = ρ.app t) {w : W} {v : V} (h : RelW G ex L ρ H w v) : RelW G ex L' ρ1 H1 w v := by
  obtain ⟨t, rfl⟩ := p
  cases h with
  | d h => exact .d (h.mono k)
  | loc h => exact .loc (pre_get h)
  | scr h =>
    refine .scr ?_
    rcases h with ⟨o, h⟩ | h
    · exact .inl ⟨o, k.keep _ _ h fun _ => trivial⟩
    · exact .inr h
  | exn h1 h2 h3 h4 => exact .exn h1 (fun d e => ⟨k.keep _ _ (h2 d e).1 fun z => absurd z (h2 d e).2, k.out (h2 d e).1 (h2 d e).2⟩) h3 (h4.mono k)
theorem RelWs.mono (k : Kp L H L' H1) (p : ∃ t, ρ1 = ρ.app t) : ∀ {ws : List W} {vs : List V}, RelWs G ex L ρ H ws vs → RelWs G ex L' ρ1 H1 ws vs
  | _, _, .nil => .nil
  | _, _, .cons h hs => .cons (h.mono k p) (RelWs.mono k p hs)
theorem RelFw.mono (k : Kp L H L' H1) (p : ∃ t, ρ1 = ρ.app t) : ∀ {ws : List (Nat × W)} {vs : List (Str × V)}, RelFw G L ρ H ws vs → RelFw G L' ρ1 H1 ws vs
  | _, _, .nil => .nil
  | _, _, .cons h hs => .cons (h.mono k p) (RelFw.mono k p hs)
theorem RelAll.mono {η : Env} {σ : St} (R : RelAll G ex ρ η S σ H) (e : Ext ρ S H ρ1 S1 H1) (R1 : RelS G ρ1 S1 H1) : RelAll G ex ρ1 η S1 σ H1 :=
  ⟨R1, R.len, fun i w h => let ⟨v, e1, r⟩ := R.slot i w h; ⟨v, e1, r.mono e.kp e.pre⟩⟩
end

/-! ### what is wanted of a run -/
/-- how a raised error lies -/
def RelX (G : Wd) (L : Addr → Prop) (H : Hp) (fs : List (Nat × D)) (dx : Option Addr) : Prop :=
  (fs = [] ∧ dx = none) ∨ ∃ d vs, dx = some d ∧ H d = some (.xd vs) ∧ ¬ L d ∧ RelFs G L H fs vs
def Sat {α : Type} (G : Wd) (Wx : XK) (ρ : Rho) (S : Store) (H : Hp) (r : Res α) (P : α → Rho → Store → Hp → Prop) : Prop :=
  match r with
  | .ok a S' => ∀ ρ' H', Ext ρ S H ρ' S' H' → RelS G ρ' S' H' → P a ρ' S' H'
  | .exc c fs S' => ∀ dx ρ' H', Ext ρ S H ρ' S' H' → RelS G ρ' S' H' → RelX G (Live ρ' S') H' fs dx → Wx (.ref (G.ca c)) dx H'
  | .stk => False
section
variable {G : Wd} {ex : Ex} {Wx : XK} {ρ ρ1 : Rho} {S S1 : Store} {H H1 : Hp} {α β : Type} {r : Res α} {f : α → Store → Res β} {P : α → Rho → Store → Hp → Prop} {Q : β → Rho → Store → Hp → Prop}
theorem Sat.from (e : Ext ρ S H ρ1 S1 H1) (h : Sat G Wx ρ S H r P) : Sat G Wx ρ1 S1 H1 r P := by
  cases r with
  | ok a S' => exact fun ρ' H' e' R => h ρ' H' (e.trans e') R
  | exc c fs S' => exact fun dx ρ' H' e' R x => h dx ρ' H' (e.trans e') R x
  | stk => exact h
theorem Sat.bind (h : Sat G Wx ρ S H (r.bind f) Q) : Sat G Wx ρ S H r fun a ρ1 S1 H1 => Ext ρ S H ρ1 S1 H1 ∧ RelS G ρ1 S1 H1 ∧ Sat G Wx ρ1 S1 H1 (f a S1) Q := by
  cases r with
  | ok a S' => exact fun ρ' H' e R => ⟨e, R, Sat.from e h⟩
  | exc c fs S' => exact h
  | stk => exact h
--theorem Sat.imp (h : Sat G Wx ρ S H r P) (k : ∀ a ρ' S' H', Ext ρ S H ρ' S' H' → RelS G ρ' S' H' → P a ρ' S' H' → ∀ {Q' : α → Rho → Store → Hp → Prop}, (P a ρ' S' H' → Q' a ρ' S' H') → Q' a ρ' S' H') : True := trivial
theorem Sat.mono {P' : α → Rho → Store → Hp → Prop} (h : Sat G Wx ρ S H r P) (k : ∀ a ρ' S' H', Ext ρ S H ρ' S' H' → RelS G ρ' S' H' → P a ρ' S' H' → P' a ρ' S' H') : Sat G Wx ρ S H r P' := by
  cases r with
  | ok a S' => exact fun ρ' H' e R => k _ _ _ _ e R (h ρ' H' e R)
  | exc c fs S' => exact h
  | stk => exact h
/-- something known is there -/
theorem Sat.now {a : α} (R : RelS G ρ S H) (h : Sat G Wx ρ S H (.ok a S) P) : P a ρ S H := h ρ H .refl R
theorem Sat.ofO_bind {o : Option α} {S0 : Store} (h : Sat G Wx ρ S H ((ofO o S0).bind f) Q) : ∃ a, o = some a ∧ Sat G Wx ρ S H (f a S0) Q := by
  cases o with
  | some a => exact ⟨a, rfl, h⟩
  | none => exact h.elim
theorem Sat.ofO {o : Option α} {S0 : Store} (h : Sat G Wx ρ S H (ofO o S0) P) : ∃ a, o = some a ∧ Sat G Wx ρ S H (.ok a S0) P := by
  cases o with
  | some a => exact ⟨a, rfl, h⟩
  | none => exact h.elim
end

/-- an expression's reading by what the evaluator says of it -/
def RdE (G : Wd) (ex : Ex) (Wx : L2.WX) (m : Env → Store → Res W) : TE := fun σ H Q => ∃ ρ η S, RelAll G ex ρ η S σ H ∧
  Sat G (fun c d H => Wx c d σ H) ρ S H (m η S) fun w ρ' S' H' => ∀ v, RelW G ex (Live ρ' S') ρ' H' w v → Q v H'
def RdT (G : Wd) (ex : Ex) (Wx : L2.WX) (m : Env → Store → Res Bool) : TT := fun σ H Q => ∃ ρ η S, RelAll G ex ρ η S σ H ∧
  Sat G (fun c d H => Wx c d σ H) ρ S H (m η S) fun b ρ' S' H' => Q b H'
def RdEs (G : Wd) (ex : Ex) (Wx : L2.WX) (m : Env → Store → Res (List W)) : TA := fun σ H Q => ∃ ρ η S, RelAll G ex ρ η S σ H ∧
  Sat G (fun c d H => Wx c d σ H) ρ S H (m η S) fun ws ρ' S' H' => ∀ vs, RelWs G ex (Live ρ' S') ρ' H' ws vs → Q vs H'

section
variable {G : Wd} {ex : Ex} {Wx : L2.WX} {ρ : Rho} {S : Store} {H : Hp} {σ : St} {η : Env} {α : Type} {P : α → Rho → Store → Hp → Prop}
/-- first a value, then the rest -/
theorem rd1 {m : Env → Store → Res W} {f : W → Store → Res α} {Q : VK} (R : RelAll G ex ρ η S σ H) (h : Sat G (fun c d H => Wx c d σ H) ρ S H ((m η S).bind f) P)
    (k : ∀ w v ρ1 S1 H1, RelAll G ex ρ1 η S1 σ H1 → Ext ρ S H ρ1 S1 H1 → RelW G ex (Live ρ1 S1) ρ1 H1 w v → Sat G (fun c d H => Wx c d σ H) ρ1 S1 H1 (f w S1) P → Q v H1) : RdE G ex Wx m σ H Q :=
  ⟨ρ, η, S, R, h.bind.mono fun w ρ1 S1 H1 _ _ ⟨e, R1, h1⟩ v r => k w v ρ1 S1 H1 (R.mono e R1) e r h1⟩
theorem rd1s {m : Env → Store → Res (List W)} {f : List W → Store → Res α} {Q : List V → Hp → Prop} (R : RelAll G ex ρ η S σ H) (h : Sat G (fun c d H => Wx c d σ H) ρ S H ((m η S).bind f) P)
    (k : ∀ ws vs ρ1 S1 H1, RelAll G ex ρ1 η S1 σ H1 → Ext ρ S H ρ1 S1 H1 → RelWs G ex (Live ρ1 S1) ρ1 H1 ws vs → Sat G (fun c d H => Wx c d σ H) ρ1 S1 H1 (f ws S1) P → Q vs H1) : RdEs G ex Wx m σ H Q :=
  ⟨ρ, η, S, R, h.bind.mono fun w ρ1 S1 H1 _ _ ⟨e, R1, h1⟩ v r => k w v ρ1 S1 H1 (R.mono e R1) e r h1⟩
theorem rd1t {m : Env → Store → Res Bool} {f : Bool → Store → Res α} {Q : Bool → Hp → Prop} (R : RelAll G ex ρ η S σ H) (h : Sat G (fun c d H => Wx c d σ H) ρ S H ((m η S).bind f) P)
    (k : ∀ b ρ1 S1 H1, RelAll G ex ρ1 η S1 σ H1 → Ext ρ S H ρ1 S1 H1 → Sat G (fun c d H => Wx c d σ H) ρ1 S1 H1 (f b S1) P → Q b H1) : RdT G ex Wx m σ H Q :=
  ⟨ρ, η, S, R, h.bind.mono fun w ρ1 S1 H1 _ _ ⟨e, R1, h1⟩ => k w ρ1 S1 H1 (R.mono e R1) e h1⟩
end
theorem PE.of {X : Cx} {e : Expr} {t t' : TE} (h : PE X e t) (k : ∀ σ H Q, t' σ H Q → t σ H Q) : PE X e t' := ⟨fun pins s σ H Q I q => h.run pins s σ H Q I (k σ H Q q)⟩
theorem PT.of {X : Cx} {e : Expr} {t t' : TT} (h : PT X e t) (k : ∀ σ H Q, t' σ H Q → t σ H Q) : PT X e t' := ⟨fun pins s σ H Q I q => h.run pins s σ H Q I (k σ H Q q)⟩
theorem PA.of {X : Cx} {e : List Expr} {t t' : TA} (h : PA X e t) (k : ∀ σ H Q, t' σ H Q → t σ H Q) : PA X e t' := ⟨fun pos pins s σ H Q I q => h.run pos pins s σ H Q I (k σ H Q q)⟩
theorem PS.of {X : Cx} {e : Stmt} {t t' : TS} (h : PS X e t) (k : ∀ D σ H, t' D σ H → t D σ H) : PS X e t' := ⟨fun pins s σ H D I q => h.run pins s σ H D I (k D σ H q)⟩
theorem PSs.of {X : Cx} {e : List Stmt} {t t' : TS} (h : PSs X e t) (k : ∀ D σ H, t' D σ H → t D σ H) : PSs X e t' := ⟨fun pins s σ H D I q => h.run pins s σ H D I (k D σ H q)⟩
end RI
/-! RI4: steps of the heap under the relations. -/
namespace RI
open PySem PySem.Spec PyProof.Rows L2

section
variable {G : Wd} {ex : Ex} {ρ ρ1 ρ2 : Rho} {S S1 S2 : Store} {H H1 H2 : Hp} {L L' : Addr → Prop} {p a : Addr} {o : HO} {c c' : Cell} {l : Nat}

theorem upd_some {b : Addr} {q : HO} (hp : H p = none) (h : H b = some q) : upd H p o b = some q := by
  rw [upd_ne (ne_of_none h hp)]; exact h
theorem upd_dom {b : Addr} (h : H b ≠ none) : upd H p o b ≠ none := by
  by_cases e : b = p
  · subst e; rw [upd_same]; simp
  · rw [upd_ne e]; exact h
theorem Ext.newObj (hp : H p = none) : Ext ρ S H ρ S (upd H p o) :=
  ⟨⟨[], by simp⟩, fun b q h _ => upd_some hp h, fun _ h => .inl h, fun b h => upd_dom h, fun b _ h => upd_ne (fun e => h (e ▸ hp))⟩

theorem RelC.keep (e : ∀ q, H a = some q → H1 a = some q) (k : Kp L H L' H1) (pr : ∃ t, ρ1 = ρ.app t) (h : RelC G L ρ H c a) : RelC G L' ρ1 H1 c a := by
  cases h with
  | lst h hs => exact .lst (e _ h) (hs.mono k)
  | lsw h hs => exact .lsw (e _ h) (hs.mono k pr)
  | dct h hs => exact .dct (e _ h) (hs.mono k)
  | ins h hs => exact .ins (e _ h) (hs.mono k pr)
  | dead => exact .dead
theorem RelS.newObj (R : RelS G ρ S H) (hp : H p = none) : RelS G ρ S (upd H p o) :=
  ⟨R.len, R.nd, fun l c a h1 h2 => (R.cell l c a h1 h2).keep (fun q h => upd_some hp h) (Ext.newObj (ρ := ρ) (S := S) hp).kp ⟨[], by simp⟩, fun a h => upd_dom (R.dom a h), fun a f => ⟨upd_dom (R.res a f).1, (R.res a f).2⟩⟩
theorem RelC.obj (h : RelC G L ρ H c a) (al : alive c = true) : ∃ q, H a = some q ∧ ¬ Solid q := by
  cases h with
  | lst h hs => exact ⟨_, h, fun z => z⟩
  | lsw h hs => exact ⟨_, h, fun z => z⟩
  | dct h hs => exact ⟨_, h, fun z => z⟩
  | ins h hs => exact ⟨_, h, fun z => z⟩
  | dead => cases al
theorem get_lt {α : Type} {xs : List α} {i : Nat} {x : α} (h : xs[i]? = some x) : i < xs.length := (List.getElem?_eq_some_iff.mp h).1
theorem nd_inj {xs : List Addr} (n : xs.Nodup) {i j : Nat} {x : Addr} (a : xs[i]? = some x) (b : xs[j]? = some x) : i = j := by
  obtain ⟨h1, e1⟩ := List.getElem?_eq_some_iff.mp a
  obtain ⟨h2, e2⟩ := List.getElem?_eq_some_iff.mp b
  exact (List.getElem_inj n).mp (e1.trans e2.symm)
theorem RelS.addr (R : RelS G ρ S H) (h : S[l]? = some c) : ∃ a, ρ.l[l]? = some a := by
  have := get_lt h
  rw [← R.len] at this
  exact ⟨_, List.getElem?_eq_getElem this⟩
theorem RelS.live (R : RelS G ρ S H) (h : S[l]? = some c) (al : alive c = true) (ha : ρ.l[l]? = some a) : Live ρ S a := .inr ⟨l, c, h, al, ha⟩
theorem RelS.liveDom (R : RelS G ρ S H) (h : Live ρ S a) : H a ≠ none := by
  rcases h with f | ⟨l, c, _, _, e⟩
  · exact (R.res a f).1
  · exact R.dom a (List.mem_of_getElem? e)
theorem RelS.fresh (R : RelS G ρ S H) (hp : H p = none) : ¬ Live ρ S p := fun h => R.liveDom h hp
theorem RelS.notin (R : RelS G ρ S H) (hp : H p = none) : p ∉ ρ.l := fun h => R.dom p h hp
/-- the cell l is written -/
theorem live_set (R : RelS G ρ S H) (h : S[l]? = some c) (al : alive c = true) : ∀ b, Live ρ (S.set l c') b → Live ρ S b := by
  rintro b (f | ⟨m, d, h1, h2, h3⟩)
  · exact .inl f
  by_cases e : m = l
  · subst e; exact .inr ⟨m, c, h, al, h3⟩
  · rw [List.getElem?_set_ne (Ne.symm e)] at h1
    exact .inr ⟨m, d, h1, h2, h3⟩
theorem Ext.setCell (R : RelS G ρ S H) (h : S[l]? = some c) (al : alive c = true) (ha : ρ.l[l]? = some a) : Ext ρ S H ρ (S.set l c') (upd H a o) := by
  refine ⟨⟨[], by simp⟩, fun b q hb hs => ?_, fun b hb => .inl (live_set R h al b hb), fun b hb => upd_dom hb, fun b f _ => upd_ne (fun e => (R.res b f).2 (e ▸ List.mem_of_getElem? ha))⟩
  by_cases e : b = a
  · subst e
    obtain ⟨q', e', n⟩ := (R.cell l c b h ha).obj al
    rw [hb] at e'; cases e'
    exact absurd (hs (R.live h al ha)) n
  · rw [upd_ne e]; exact hb
theorem RelS.setCell (R : RelS G ρ S H) (h : S[l]? = some c) (al : alive c = true) (ha : ρ.l[l]? = some a)
    (hc : RelC G (Live ρ (S.set l c')) ρ (upd H a o) c' a) : RelS G ρ (S.set l c') (upd H a o) := by
  refine ⟨by rw [List.length_set]; exact R.len, R.nd, fun m d b h1 h2 => ?_, fun b hb => upd_dom (R.dom b hb), fun b f => ⟨upd_dom (R.res b f).1, (R.res b f).2⟩⟩
  by_cases e : m = l
  · subst e
    rw [List.getElem?_set_self (get_lt h)] at h1
    cases h1
    rw [ha] at h2; cases h2
    exact hc
  · rw [List.getElem?_set_ne (Ne.symm e)] at h1
    have nb : b ≠ a := fun z => e (nd_inj R.nd (z ▸ h2) ha)
    exact (R.cell m d b h1 h2).keep (fun q z => by rw [upd_ne nb]; exact z) (Ext.setCell (c' := c') (o := o) R h al ha).kp ⟨[], by simp⟩
/-- the cell l is let go: what stands there never changes any more -/
theorem Ext.kill (R : RelS G ρ S H) (h : S[l]? = some c) (al : alive c = true) : Ext ρ S H ρ (S.set l .dead) H :=
  ⟨⟨[], by simp⟩, fun b q hb _ => hb, fun b hb => .inl (live_set R h al b hb), fun b hb => hb, fun _ _ _ => rfl⟩
theorem RelS.kill (R : RelS G ρ S H) (h : S[l]? = some c) (al : alive c = true) : RelS G ρ (S.set l .dead) H := by
  refine ⟨by rw [List.length_set]; exact R.len, R.nd, fun m d b h1 h2 => ?_, R.dom, R.res⟩
  by_cases e : m = l
  · subst e
    rw [List.getElem?_set_self (get_lt h)] at h1
    cases h1; exact .dead
  · rw [List.getElem?_set_ne (Ne.symm e)] at h1
    exact (R.cell m d b h1 h2).keep (fun q z => z) (Ext.kill R h al).kp ⟨[], by simp⟩
theorem not_live_kill (R : RelS G ρ S H) (ha : ρ.l[l]? = some a) (hl : l < S.length) : ¬ Live ρ (S.set l .dead) a := by
  rintro (f | ⟨m, d, h1, h2, h3⟩)
  · exact (R.res a f).2 (List.mem_of_getElem? ha)
  have e := nd_inj R.nd h3 ha
  subst e
  rw [List.getElem?_set_self hl] at h1
  cases h1; cases h2
/-- a new cell -/
theorem live_app (R : RelS G ρ S H) : ∀ b, Live (ρ.app [p]) (S ++ [c]) b → Live ρ S b ∨ b = p := by
  rintro b (f | ⟨m, d, h1, h2, h3⟩)
  · exact .inl (.inl f)
  replace h3 : (ρ.l ++ [p])[m]? = some b := h3
  by_cases e : m < S.length
  · rw [List.getElem?_append_left e] at h1
    rw [List.getElem?_append_left (by rw [R.len]; exact e)] at h3
    exact .inl (.inr ⟨m, d, h1, h2, h3⟩)
  · have hm : m = S.length := by
      have := get_lt h1
      rw [List.length_append, List.length_singleton] at this
      omega
    subst hm
    rw [← R.len, List.getElem?_concat_length] at h3
    cases h3
    exact .inr rfl
theorem Ext.newCell (R : RelS G ρ S H) (hp : H p = none) : Ext ρ S H (ρ.app [p]) (S ++ [c]) (upd H p o) :=
  ⟨⟨[p], rfl⟩, fun b q h _ => upd_some hp h, fun b h => by
    rcases live_app R b h with z | z
    · exact .inl z
    · exact .inr (z ▸ hp), fun b h => upd_dom h, fun b _ h => upd_ne (fun e => h (e ▸ hp))⟩
theorem RelS.newCell (R : RelS G ρ S H) (hp : H p = none) (hc : RelC G (Live (ρ.app [p]) (S ++ [c])) (ρ.app [p]) (upd H p o) c p) : RelS G (ρ.app [p]) (S ++ [c]) (upd H p o) := by
  refine ⟨by simp [Rho.app, R.len], ?_, fun m d b h1 h2 => ?_, fun b hb => ?_, fun b f => ⟨upd_dom (R.res b f).1, fun hm => ?_⟩⟩
  · show (ρ.l ++ [p]).Nodup
    rw [List.nodup_append]
    refine ⟨R.nd, by simp, fun x hx y hy e => ?_⟩
    simp at hy
    rw [e, hy] at hx
    exact R.notin hp hx
  · replace h2 : (ρ.l ++ [p])[m]? = some b := h2
    by_cases e : m < S.length
    · rw [List.getElem?_append_left e] at h1
      rw [List.getElem?_append_left (by rw [R.len]; exact e)] at h2
      exact (R.cell m d b h1 h2).keep (fun q z => upd_some hp z) (Ext.newCell (c := c) (o := o) R hp).kp ⟨[p], rfl⟩
    · have hm : m = S.length := by
        have := get_lt h1
        rw [List.length_append, List.length_singleton] at this
        omega
      subst hm
      rw [List.getElem?_concat_length] at h1
      cases h1
      rw [← R.len, List.getElem?_concat_length] at h2
      cases h2
      exact hc
  · replace hb : b ∈ ρ.l ++ [p] := hb
    rw [List.mem_append] at hb
    rcases hb with z | z
    · exact upd_dom (R.dom b z)
    · simp at z
      subst z
      rw [upd_same]; simp
  · replace hm : b ∈ ρ.l ++ [p] := hm
    rw [List.mem_append] at hm
    rcases hm with z | z
    · exact (R.res b f).2 z
    · simp at z
      subst z
      exact (R.res b f).1 hp

/-! ### names -/
theorem get_set_some {α : Type} {xs : List (Option α)} {i j : Nat} {x y : α} (h : (xs.set i (some x))[j]? = some (some y)) : (j = i ∧ y = x) ∨ (j ≠ i ∧ xs[j]? = some (some y)) := by
  by_cases e : j = i
  · subst e
    have hl : j < xs.length := by
      have := get_lt h
      rwa [List.length_set] at this
    rw [List.getElem?_set_self hl] at h
    cases h; exact .inl ⟨rfl, rfl⟩
  · rw [List.getElem?_set_ne (Ne.symm e)] at h
    exact .inr ⟨e, h⟩
theorem RelAll.set {η : Env} {σ : St} {i : Nat} {w : W} {v : V} (R : RelAll G ex ρ η S σ H) (r : RelW G ex (Live ρ S) ρ H w v) (hi : i < η.length) : RelAll G ex ρ (η.set i (some w)) S (σ.set i (some v)) H := by
  refine ⟨R.st, by rw [List.length_set, List.length_set]; exact R.len, fun j u h => ?_⟩
  rcases get_set_some h with ⟨e, e2⟩ | ⟨e, e2⟩
  · subst e; subst e2
    exact ⟨v, by rw [List.getElem?_set_self (by rw [← R.len]; exact hi)], r⟩
  · obtain ⟨x, e3, r3⟩ := R.slot j u e2
    exact ⟨x, by rw [List.getElem?_set_ne (Ne.symm e)]; exact e3, r3⟩
theorem RelAll.unset {η : Env} {σ : St} {i : Nat} (R : RelAll G ex ρ η S σ H) : RelAll G ex ρ (η.set i none) S (σ.set i none) H := by
  refine ⟨R.st, by rw [List.length_set, List.length_set]; exact R.len, fun j u h => ?_⟩
  by_cases e : j = i
  · subst e
    have hl : j < η.length := by
      have := get_lt h
      rwa [List.length_set] at this
    rw [List.getElem?_set_self hl] at h
    cases h
  · rw [List.getElem?_set_ne (Ne.symm e)] at h
    obtain ⟨x, e3, r3⟩ := R.slot j u h
    exact ⟨x, by rw [List.getElem?_set_ne (Ne.symm e)]; exact e3, r3⟩
theorem RelAll.get {η : Env} {σ : St} {i : Nat} {w : W} (R : RelAll G ex ρ η S σ H) (h : getV η i = some w) : ∃ v, σ[i]? = some (some v) ∧ RelW G ex (Live ρ S) ρ H w v := by
  refine R.slot i w ?_
  unfold getV at h
  split at h
  · next e => cases h; exact e
  · cases h
theorem RelAll.wipe {η : Env} {σ : St} (R : RelAll G ex ρ η S σ H) : ∀ vs : List Nat, RelAll G ex ρ (wipeE η vs) S (wipe σ vs) H
  | [] => R
  | v :: vs => (RelAll.wipe R vs).unset
theorem RelDs.length {L : Addr → Prop} : ∀ {xs : List D} {vs : List V}, RelDs G L H xs vs → xs.length = vs.length
  | _, _, .nil => rfl
  | _, _, .cons _ h => by simp [RelDs.length h]
theorem RelDs.append {L : Addr → Prop} : ∀ {xs ys : List D} {vs us : List V}, RelDs G L H xs vs → RelDs G L H ys us → RelDs G L H (xs ++ ys) (vs ++ us)
  | _, _, _, _, .nil, h => h
  | _, _, _, _, .cons a h, h2 => .cons a (RelDs.append h h2)
theorem RelDs.get {L : Addr → Prop} : ∀ {xs : List D} {vs : List V} {i : Nat} {x : D}, RelDs G L H xs vs → xs[i]? = some x → ∃ v, vs[i]? = some v ∧ RelD G L H x v
  | _, _, _, _, .nil, e => by simp at e
  | _, _, 0, _, .cons a h, e => by simp at e; subst e; exact ⟨_, rfl, a⟩
  | _, _, i + 1, x, .cons a h, e => by
    obtain ⟨v, h1, h2⟩ := RelDs.get (i := i) (x := x) h (by simpa using e)
    exact ⟨v, by simpa using h1, h2⟩
theorem RelDs.take {L : Addr → Prop} : ∀ {xs : List D} {vs : List V} (n : Nat), RelDs G L H xs vs → RelDs G L H (xs.take n) (vs.take n)
  | _, _, 0, _ => .nil
  | _, _, _ + 1, .nil => .nil
  | _, _, n + 1, .cons a h => .cons a (RelDs.take n h)
theorem RelDs.drop {L : Addr → Prop} : ∀ {xs : List D} {vs : List V} (n : Nat), RelDs G L H xs vs → RelDs G L H (xs.drop n) (vs.drop n)
  | _, _, 0, h => h
  | _, _, _ + 1, .nil => .nil
  | _, _, n + 1, .cons _ h => RelDs.drop n h
theorem RelDs.set {L : Addr → Prop} {x : D} {v : V} (r : RelD G L H x v) : ∀ {xs : List D} {vs : List V} (i : Nat), RelDs G L H xs vs → RelDs G L H (xs.set i x) (vs.set i v)
  | _, _, _, .nil => .nil
  | _, _, 0, .cons _ h => .cons r h
  | _, _, i + 1, .cons a h => .cons a (RelDs.set r i h)
theorem RelDs.erase {L : Addr → Prop} : ∀ {xs : List D} {vs : List V} (i : Nat), RelDs G L H xs vs → RelDs G L H (xs.eraseIdx i) (vs.eraseIdx i)
  | _, _, _, .nil => .nil
  | _, _, 0, .cons _ h => h
  | _, _, i + 1, .cons a h => .cons a (RelDs.erase i h)
theorem RelDs.rep {L : Addr → Prop} {xs : List D} {vs : List V} (h : RelDs G L H xs vs) : ∀ n : Nat, RelDs G L H (List.replicate n xs).flatten (List.replicate n vs).flatten
  | 0 => .nil
  | n + 1 => by
    simp only [List.replicate_succ, List.flatten_cons]
    exact h.append (RelDs.rep h n)
theorem RelDs.ints {L : Addr → Prop} : ∀ (ns : List Int), RelDs G L H (ns.map D.int) (ns.map V.int)
  | [] => .nil
  | n :: ns => .cons (.int n) (RelDs.ints ns)
theorem RelDs.cut {L : Addr → Prop} {xs : List D} {vs : List V} (h : RelDs G L H xs vs) (lo hi : Option Int) : RelDs G L H (cut xs lo hi) (cutV vs lo hi) := by
  unfold RI.cut L2.cutV
  rw [h.length]
  exact (h.drop _).take _
theorem RelWs.length {L : Addr → Prop} : ∀ {xs : List W} {vs : List V}, RelWs G ex L ρ H xs vs → xs.length = vs.length
  | _, _, .nil => rfl
  | _, _, .cons _ h => by simp [RelWs.length h]
theorem RelWs.get {L : Addr → Prop} : ∀ {xs : List W} {vs : List V} {i : Nat} {x : W}, RelWs G ex L ρ H xs vs → xs[i]? = some x → ∃ v, vs[i]? = some v ∧ RelW G ex L ρ H x v
  | _, _, _, _, .nil, e => by simp at e
  | _, _, 0, _, .cons a h, e => by simp at e; subst e; exact ⟨_, rfl, a⟩
  | _, _, i + 1, x, .cons a h, e => by
    obtain ⟨v, h1, h2⟩ := RelWs.get (i := i) (x := x) h (by simpa using e)
    exact ⟨v, by simpa using h1, h2⟩
theorem RelWs.set {L : Addr → Prop} {x : W} {v : V} (r : RelW G ex L ρ H x v) : ∀ {xs : List W} {vs : List V} (i : Nat), RelWs G ex L ρ H xs vs → RelWs G ex L ρ H (xs.set i x) (vs.set i v)
  | _, _, _, .nil => .nil
  | _, _, 0, .cons _ h => .cons r h
  | _, _, i + 1, .cons a h => .cons a (RelWs.set r i h)
end

/-! ### data out of cells -/
section
variable {G : Wd} {ex : Ex} {ρ : Rho} {S : Store} {H : Hp} {w : W} {v : V} {x : D}
theorem RelFw.ds {L : Addr → Prop} : ∀ {fs : List (Nat × W)} {ds : List (Nat × D)} {vs : List (Str × V)}, RelFw G L ρ H fs vs → wsD fs = some ds → RelFs G L H ds vs
  | [], ds, _, .nil, h => by simp only [wsD] at h; cases h; exact .nil
  | (f, .d x) :: r, ds, _, .cons a hs, h => by
    simp only [wsD] at h
    cases e : wsD r with
    | none => rw [e] at h; cases h
    | some d2 =>
      rw [e] at h; cases h
      cases a with
      | d a => exact .cons a (RelFw.ds hs e)
  | (f, .loc l) :: r, ds, _, .cons a hs, h => by simp [wsD] at h
  | (f, .scr l) :: r, ds, _, .cons a hs, h => by simp [wsD] at h
  | (f, .exn c l) :: r, ds, _, .cons a hs, h => by simp [wsD] at h
theorem RelC.data {L L' : Addr → Prop} {c : Cell} {a : Addr} (k : Kp L H L' H) (h : RelC G L ρ H c a) (e : cellD c = some x) (n : ¬ L' a) : RelD G L' H x (.ref a) := by
  cases h with
  | lst h hs => simp only [cellD] at e; cases e; exact .lst h n (hs.mono k)
  | lsw h hs => simp [cellD] at e
  | dct h hs => simp only [cellD] at e; cases e; exact .dic h n (hs.mono k)
  | ins h hs =>
    simp only [cellD, Option.map_eq_some_iff] at e
    obtain ⟨ds, e1, e2⟩ := e
    subst e2
    exact .obj h n ((hs.ds e1).mono k)
  | dead => simp [cellD] at e
theorem alive_of {c : Cell} (e : cellD c = some x) : alive c = true := by
  cases c <;> simp [cellD, alive] at *
/-- the heap stays, the cells of what became data are let go -/
theorem toD_ok {S' : Store} (R : RelS G ρ S H) (r : RelW G ex (Live ρ S) ρ H w v) (h : toD w S = .ok x S') : Ext ρ S H ρ S' H ∧ RelS G ρ S' H ∧ RelD G (Live ρ S') H x v := by
  cases w with
  | d y =>
    simp only [toD] at h; cases h
    cases r with
    | d r => exact ⟨.refl, R, r⟩
  | loc l =>
    simp only [toD] at h
    split at h
    · next y e =>
      cases h
      cases r with
      | loc ra =>
        cases hc : S[l]? with
        | none => rw [hc] at e; simp at e
        | some c =>
          rw [hc] at e
          simp only [Option.bind_some] at e
          have al := alive_of e
          refine ⟨.kill R hc al, R.kill hc al, ?_⟩
          exact (R.cell l c _ hc ra).data (Ext.kill R hc al).kp e (not_live_kill R ra (get_lt hc))
    · cases h
  | scr ns => simp [toD] at h
  | exn c fs => simp [toD] at h
theorem toD_cases (w : W) (S : Store) : (∃ x S', toD w S = .ok x S') ∨ toD w S = .stk := by
  cases w with
  | d y => exact .inl ⟨_, _, rfl⟩
  | loc l =>
    simp only [toD]
    split
    · exact .inl ⟨_, _, rfl⟩
    · exact .inr rfl
  | scr ns => exact .inr rfl
  | exn c fs => exact .inr rfl
theorem toDs_ok : ∀ {ws : List W} {vs : List V} {xs : List D} {S S' : Store}, RelS G ρ S H → RelWs G ex (Live ρ S) ρ H ws vs → toDs ws S = .ok xs S' → Ext ρ S H ρ S' H ∧ RelS G ρ S' H ∧ RelDs G (Live ρ S') H xs vs
  | [], _, xs, S, S', R, .nil, h => by
    simp only [toDs] at h; cases h
    exact ⟨.refl, R, .nil⟩
  | w :: ws, _, xs, S, S', R, .cons r rs, h => by
    simp only [toDs] at h
    rcases toD_cases w S with ⟨x, S1, e⟩ | e
    · rw [e] at h
      simp only [Res.bind_ok] at h
      obtain ⟨E1, R1, r1⟩ := toD_ok R r e
      cases e2 : toDs ws S1 with
      | ok ys S2 =>
        rw [e2] at h
        simp only [Res.bind_ok] at h
        cases h
        obtain ⟨E2, R2, r2⟩ := toDs_ok R1 (rs.mono E1.kp E1.pre) e2
        exact ⟨E1.trans E2, R2, .cons (r1.mono E2.kp) r2⟩
      | exc c fs S2 => rw [e2] at h; cases h
      | stk => rw [e2] at h; cases h
    · rw [e] at h; cases h
theorem toDs_exc : ∀ {ws : List W} {S : Store} {c : Nat} {fs : List (Nat × D)} {S' : Store}, toDs ws S ≠ .exc c fs S'
  | [], S, c, fs, S' => by simp [toDs]
  | w :: ws, S, c, fs, S' => by
    simp only [toDs]
    rcases toD_cases w S with ⟨x, S1, e⟩ | e
    · rw [e]
      simp only [Res.bind_ok]
      cases e2 : toDs ws S1 with
      | ok ys S2 => simp
      | exc c2 fs2 S2 => exact absurd e2 toDs_exc
      | stk => simp
    · rw [e]; simp
end
section
variable {G : Wd} {ex : Ex} {Wx : XK} {ρ : Rho} {S : Store} {H : Hp} {α : Type} {Q : α → Rho → Store → Hp → Prop}
theorem Sat.toD_bind {w : W} {v : V} {f : D → Store → Res α} (R : RelS G ρ S H) (r : RelW G ex (Live ρ S) ρ H w v) (h : Sat G Wx ρ S H ((toD w S).bind f) Q) :
    ∃ x S1, Ext ρ S H ρ S1 H ∧ RelS G ρ S1 H ∧ RelD G (Live ρ S1) H x v ∧ Sat G Wx ρ S1 H (f x S1) Q := by
  rcases toD_cases w S with ⟨x, S1, e⟩ | e
  · obtain ⟨E1, R1, r1⟩ := toD_ok R r e
    rw [e] at h
    exact ⟨x, S1, E1, R1, r1, h.from E1⟩
  · rw [e] at h; exact h.elim
theorem Sat.toDs_bind {ws : List W} {vs : List V} {f : List D → Store → Res α} (R : RelS G ρ S H) (r : RelWs G ex (Live ρ S) ρ H ws vs) (h : Sat G Wx ρ S H ((toDs ws S).bind f) Q) :
    ∃ xs S1, Ext ρ S H ρ S1 H ∧ RelS G ρ S1 H ∧ RelDs G (Live ρ S1) H xs vs ∧ Sat G Wx ρ S1 H (f xs S1) Q := by
  cases e : toDs ws S with
  | ok xs S1 =>
    obtain ⟨E1, R1, r1⟩ := toDs_ok R r e
    rw [e] at h
    exact ⟨xs, S1, E1, R1, r1, h.from E1⟩
  | exc c fs S' => exact absurd e toDs_exc
  | stk => rw [e] at h; exact h.elim
end
end RI
/-! RI5: the operations, by the rules of the hand layer. -/
namespace RI
open PySem PySem.Spec PyProof.Rows L2

theorem line_eq : line = sizeLine := rfl
theorem str_len (s : List Nat) : (Str' s).length = s.length := by show s.toArray.size = s.length; simp
theorem str_app (s t : List Nat) : Str' s ++ Str' t = Str' (s ++ t) := by
  show (⟨s.toArray ++ t.toArray⟩ : Str) = ⟨(s ++ t).toArray⟩
  simp
theorem str_inj {s t : List Nat} (h : Str' s = Str' t) : s = t := by
  have e : (Str' s).cps.toList = (Str' t).cps.toList := by rw [h]
  simpa using e

section
variable {G : Wd} {ex : Ex}
/-- data come out of a two-place operation -/
def rD2 (G : Wd) (ex : Ex) (f : W → W → Store → Option D) : R2 := fun x y H Q => ∃ ρ S a b z, RelS G ρ S H ∧ RelW G ex (Live ρ S) ρ H a x ∧ RelW G ex (Live ρ S) ρ H b y ∧ f a b S = some z ∧
  ∀ v H', Ext ρ S H ρ S H' → RelS G ρ S H' → RelD G (Live ρ S) H' z v → Q v H'
def rB2 (G : Wd) (ex : Ex) (f : W → W → Store → Option Bool) : R2 := fun x y H Q => ∃ ρ S a b z, RelS G ρ S H ∧ RelW G ex (Live ρ S) ρ H a x ∧ RelW G ex (Live ρ S) ρ H b y ∧ f a b S = some z ∧ Q (.bl z) H

variable {ρ : Rho} {S : Store} {H : Hp} {L : Addr → Prop} {w : W} {v : V}
theorem RelD.int_inv {i : Int} (h : RelD G L H (.int i) v) : v = .int i := by cases h; rfl
theorem RelD.bl_inv {i : Bool} (h : RelD G L H (.bl i) v) : v = .bl i := by cases h; rfl
theorem RelD.str_inv {i : List Nat} (h : RelD G L H (.str i) v) : v = .str (Str' i) := by cases h; rfl
theorem RelD.non_inv (h : RelD G L H .non v) : v = .non := by cases h; rfl
theorem RelW.d_inv {x : D} (h : RelW G ex L ρ H (.d x) v) : RelD G L H x v := by cases h; assumption
theorem RelD.tup_inv {xs : List D} (h : RelD G L H (.tup xs) v) : ∃ a vs, v = .ref a ∧ SqT G.K H a vs ∧ RelDs G L H xs vs := by cases h; exact ⟨_, _, rfl, ‹_›, ‹_›⟩
theorem RelD.lst_inv {xs : List D} (h : RelD G L H (.lst xs) v) : ∃ a vs, v = .ref a ∧ H a = some (.lst vs) ∧ ¬ L a ∧ RelDs G L H xs vs := by cases h; exact ⟨_, _, rfl, ‹_›, ‹_›, ‹_›⟩
/-- a list -/
theorem RelW.lstOf {xs : List D} (R : RelS G ρ S H) (h : RelW G ex (Live ρ S) ρ H w v) (e : lstOf w S = some xs) : ∃ a vs, v = .ref a ∧ H a = some (.lst vs) ∧ RelDs G (Live ρ S) H xs vs := by
  cases w with
  | d x =>
    cases x <;> simp only [RI.lstOf] at e <;> try cases e
    obtain ⟨a, vs, e1, e2, _, e3⟩ := h.d_inv.lst_inv
    exact ⟨a, vs, e1, e2, e3⟩
  | loc l =>
    simp only [RI.lstOf] at e
    split at e
    · next ys e1 =>
      cases e
      cases h with
      | loc ha =>
        cases R.cell l _ _ e1 ha with
        | lst h1 h2 => exact ⟨_, _, rfl, h1, h2⟩
    · cases e
  | scr ns => simp [RI.lstOf] at e
  | exn c fs => simp [RI.lstOf] at e
/-- a sequence, to be read -/
theorem RelW.seqOf {k : SK} {xs : List D} (R : RelS G ρ S H) (h : RelW G ex (Live ρ S) ρ H w v) (e : seqOf w S = some (k, xs)) :
    ∃ a vs, v = .ref a ∧ ((k = .tup ∧ SqT G.K H a vs) ∨ (k = .lst ∧ SqL G.K H a vs)) ∧ RelDs G (Live ρ S) H xs vs := by
  cases w with
  | d x =>
    cases x <;> simp only [RI.seqOf] at e <;> try cases e
    · obtain ⟨a, vs, e1, e2, e3⟩ := h.d_inv.tup_inv
      exact ⟨a, vs, e1, .inl ⟨rfl, e2⟩, e3⟩
    · obtain ⟨a, vs, e1, e2, _, e3⟩ := h.d_inv.lst_inv
      exact ⟨a, vs, e1, .inr ⟨rfl, SqL.of e2⟩, e3⟩
  | loc l =>
    simp only [RI.seqOf] at e
    split at e
    · next ys e1 =>
      cases e
      cases h with
      | loc ha =>
        cases R.cell l _ _ e1 ha with
        | lst h1 h2 => exact ⟨_, _, rfl, .inr ⟨rfl, SqL.of h1⟩, h2⟩
    · cases e
  | scr ns =>
    simp only [RI.seqOf] at e
    cases e
    cases h with
    | scr h => exact ⟨_, _, rfl, .inr ⟨rfl, h.sq⟩, RelDs.ints ns⟩
  | exn c fs => simp [RI.seqOf] at e
/-- a new tuple, a new list -/
theorem RelD.newTup {p : Addr} {xs : List D} {vs : List V} (R : RelS G ρ S H) (hp : H p = none) (h : RelDs G (Live ρ S) H xs vs) : RelD G (Live ρ S) (upd H p (.tup vs)) (.tup xs) (.ref p) :=
  .tup (SqT.of upd_same) (h.mono (Ext.newObj (ρ := ρ) (S := S) hp).kp)
theorem RelD.newLst {p : Addr} {xs : List D} {vs : List V} (R : RelS G ρ S H) (hp : H p = none) (h : RelDs G (Live ρ S) H xs vs) : RelD G (Live ρ S) (upd H p (.lst vs)) (.lst xs) (.ref p) :=
  .lst upd_same (R.fresh hp) (h.mono (Ext.newObj (ρ := ρ) (S := S) hp).kp)


theorem RelDs.flat {L : Addr → Prop} {x : D} {v : V} (h : RelD G L H x v) (f : flatD x = true) : flatV v = true ∧ ∀ {y : D} {u : V}, RelD G L H y u → flatD y = true → eqV u v = eqF y x := by
  cases h <;> simp only [flatD] at f <;> try cases f
  all_goals refine ⟨rfl, fun {y u} hy fy => ?_⟩
  all_goals cases hy <;> simp only [flatD] at fy <;> try cases fy
  all_goals try rfl
  all_goals simp only [eqV, eqF]
  all_goals rw [Bool.eq_iff_iff]
  all_goals simp only [beq_iff_eq]
  all_goals exact ⟨fun q => str_inj q, fun q => by rw [q]⟩
theorem RelDs.allFlat {L : Addr → Prop} : ∀ {xs : List D} {vs : List V}, RelDs G L H xs vs → xs.all flatD = true → vs.all flatV = true
  | _, _, .nil, _ => rfl
  | _, _, .cons a h, f => by
    simp only [List.all_cons, Bool.and_eq_true] at f ⊢
    exact ⟨(RelDs.flat a f.1).1, RelDs.allFlat h f.2⟩
theorem RelDs.anyEq {L : Addr → Prop} {x : D} {v : V} (r : RelD G L H x v) (fx : flatD x = true) : ∀ {xs : List D} {vs : List V}, RelDs G L H xs vs → xs.all flatD = true → inV v vs = xs.any fun y => eqF y x
  | _, _, .nil, _ => rfl
  | _, _, .cons a h, f => by
    simp only [List.all_cons, Bool.and_eq_true] at f
    show (eqV _ v || inV v _) = _
    rw [(RelDs.flat r fx).2 a f.1, RelDs.anyEq r fx h f.2]
    rfl
mutual
theorem RelD.dp {L : Addr → Prop} : ∀ {x : D} {v : V} {p : PyData}, RelD G L H x v → toPD x = some p → Dp G.K H v p
  | _, _, _, .non, e => by simp only [toPD] at e; cases e; exact .non
  | _, _, _, .bl b, e => by simp only [toPD] at e; cases e; exact .bl b
  | _, _, _, .int i, e => by simp only [toPD] at e; cases e; exact .int i
  | _, _, _, .str s, e => by simp only [toPD] at e; cases e; exact .str _
  | _, _, _, .tup h hs, e => by
    simp only [toPD, Option.map_eq_some_iff] at e
    obtain ⟨ds, e1, e2⟩ := e
    subst e2
    exact .tup h (RelDs.dp hs e1)
  | _, _, _, .lst h _ hs, e => by
    simp only [toPD, Option.map_eq_some_iff] at e
    obtain ⟨ds, e1, e2⟩ := e
    subst e2
    exact .lst (SqL.of h) (RelDs.dp hs e1)
  | _, _, _, .dic _ _ _, e => by simp [toPD] at e
  | _, _, _, .obj _ _ _, e => by simp [toPD] at e
  | _, _, _, .fn _, e => by simp [toPD] at e
theorem RelDs.dp {L : Addr → Prop} : ∀ {xs : List D} {vs : List V} {ps : List PyData}, RelDs G L H xs vs → toPDs xs = some ps → DpAll G.K H vs ps
  | _, _, _, .nil, e => by simp only [toPDs] at e; cases e; exact .nil
  | _, _, _, .cons a h, e => by
    simp only [toPDs] at e
    split at e
    · next p ps e1 e2 =>
      cases e
      exact .cons (RelD.dp a e1) (RelDs.dp h e2)
    · cases e
end

variable {X : Cx} {a b : W} {z : D} {o : BOp}
abbrev BOp.op : BOp → Operator
  | .add => .Add | .sub => .Sub | .mul => .Mult | .fdiv => .FloorDiv | .mod => .Mod | .pow => .Pow
theorem add_str (s t : List Nat) : (V.str (Str' s ++ Str' t)) = V.str (Str' (s ++ t)) := by rw [str_app]
theorem op_fdivA : OpR X (binaryOp .FloorDiv) (rI (fun _ j => j ≠ 0 ∧ j.natAbs.log2 < 9000) fun i j => .int (i.fdiv j)) := opI fun _ _ _ _ _ _ _ hc q => floordiv_int hc.1 q (.inl (PyProof.noPylong_of_log2 hc.2))
theorem or_add (hK : X.K = G.K) : OpR X (binaryOp .Add) (rD2 G ex addD) := by
  rintro pins s σ H x y v u Q I rx ry ⟨ρ, S, a, b, z, R, ra, rb, e, k⟩
  unfold addD at e
  split at e
  · cases e
    have q1 := ra.d_inv.int_inv; have q2 := rb.d_inv.int_inv
    subst q1; subst q2
    exact op_add pins s σ H _ _ v u Q I rx ry ⟨_, _, rfl, rfl, k _ H .refl R (.int _)⟩
  · next s1 t1 =>
    split at e
    · next hl =>
      cases e
      have q1 := ra.d_inv.str_inv; have q2 := rb.d_inv.str_inv
      subst q1; subst q2
      refine op_add_str pins s σ H _ _ v u Q I rx ry ⟨_, _, rfl, rfl, by rw [str_len, str_len]; exact hl, ?_⟩
      rw [str_app]
      exact k _ H .refl R (.str _)
    · cases e
  · next s1 t1 =>
    split at e
    · next hl =>
      cases e
      obtain ⟨p, vs, rfl, h1, r1⟩ := ra.d_inv.tup_inv
      obtain ⟨q, us, rfl, h2, r2⟩ := rb.d_inv.tup_inv
      refine op_catA pins s σ H _ _ v u Q I rx ry ⟨_, _, vs, us, rfl, rfl, hK ▸ h1, hK ▸ h2, by rw [← r1.length, ← r2.length]; exact hl, fun e1 => ?_, fun _ e2 => ?_, fun e1 e2 p hp => ?_⟩
      · subst e1
        cases r1
        exact k _ H .refl R (by simpa using rb.d_inv)
      · subst e2
        cases r2
        exact k _ H .refl R (by simpa using ra.d_inv)
      · exact k _ _ (.newObj hp) (R.newObj hp) (.newTup R hp (r1.append r2))
    · cases e
  · split at e
    · next s1 t1 e1 e2 =>
      split at e
      · next hl =>
        cases e
        obtain ⟨p, vs, rfl, h1, r1⟩ := ra.lstOf R e1
        obtain ⟨q, us, rfl, h2, r2⟩ := rb.lstOf R e2
        refine op_cat pins s σ H _ _ v u Q I rx ry ⟨_, _, vs, us, rfl, rfl, h1, h2, by rw [← r1.length, ← r2.length]; exact hl, fun p hp => ?_⟩
        exact k _ _ (.newObj hp) (R.newObj hp) (.newLst R hp (r1.append r2))
      · cases e
    · cases e
theorem or_bin (hK : X.K = G.K) : OpR X (binaryOp o.op) (rD2 G ex (binD o)) := by
  cases o with
  | add => exact or_add hK
  | sub =>
    rintro pins s σ H x y v u Q I rx ry ⟨ρ, S, a, b, z, R, ra, rb, e, k⟩
    simp only [binD, subD] at e
    split at e
    · cases e
      have q1 := ra.d_inv.int_inv; have q2 := rb.d_inv.int_inv
      subst q1; subst q2
      exact op_sub pins s σ H _ _ v u Q I rx ry ⟨_, _, rfl, rfl, k _ H .refl R (.int _)⟩
    · cases e
  | mul =>
    rintro pins s σ H x y v u Q I rx ry ⟨ρ, S, a, b, z, R, ra, rb, e, k⟩
    simp only [binD] at e
    unfold mulD at e
    split at e
    · next i j =>
      split at e
      · next hb =>
        cases e
        have q1 := ra.d_inv.int_inv; have q2 := rb.d_inv.int_inv
        subst q1; subst q2
        exact op_mulW pins s σ H _ _ v u Q I rx ry ⟨_, _, rfl, rfl, (by unfold CMulW; simpa [bitsOk] using hb), k _ H .refl R (.int _)⟩
      · cases e
    · next s1 j =>
      split at e
      · next hl =>
        cases e
        obtain ⟨p, vs, rfl, h1, r1⟩ := ra.d_inv.tup_inv
        have q2 := rb.d_inv.int_inv
        subst q2
        by_cases hs : s1 = [] ∨ j ≤ 1
        · have hv : vs = [] ∨ j ≤ 1 := by
            rcases hs with z | z
            · subst z; cases r1; exact .inl rfl
            · exact .inr z
          refine op_rep1 pins s σ H _ _ v u Q I rx ry ⟨_, _, vs, rfl, rfl, hK ▸ h1, hl.1, by have := hl.2.1; omega, fun hw => ?_, fun hx hk p hp => ?_, hv⟩
          · have e0 : rep j s1 = s1 := by
              rcases hw with z | z
              · subst z; cases r1; simp [rep]
              · subst z; simp [rep]
            rw [e0] at k
            exact k _ H .refl R ra.d_inv
          · have e0 : rep j s1 = [] := by
              have : j.toNat = 0 := by omega
              simp [rep, this]
            rw [e0] at k
            exact k _ _ (.newObj hp) (R.newObj hp) (.newTup R hp .nil)
        · have h2 : s1 ≠ [] ∧ 2 ≤ j := ⟨fun z => hs (.inl z), by
            have : ¬ j ≤ 1 := fun z => hs (.inr z)
            omega⟩
          have hn : vs ≠ [] := fun z => by subst z; cases r1; exact h2.1 rfl
          exact op_repT pins s σ H _ _ v u Q I rx ry ⟨_, _, vs, rfl, rfl, hK ▸ h1, hn, h2.2, hl.2.1, by rw [← r1.length]; exact hl.2.2, fun p hp => k _ _ (.newObj hp) (R.newObj hp) (.newTup R hp (r1.rep _))⟩
      · cases e
    · next j _ _ =>
      split at e
      · next s1 e1 =>
        split at e
        · next hl =>
          cases e
          obtain ⟨p, vs, rfl, h1, r1⟩ := ra.lstOf R e1
          have q2 := rb.d_inv.int_inv
          subst q2
          exact op_rep pins s σ H _ _ v u Q I rx ry ⟨_, _, vs, rfl, rfl, h1, hl.2.1, hl.2.2, by rw [← r1.length]; exact hl.1, fun p hp => k _ _ (.newObj hp) (R.newObj hp) (.newLst R hp (r1.rep _))⟩
        · cases e
      · cases e
    · cases e
  | fdiv =>
    rintro pins s σ H x y v u Q I rx ry ⟨ρ, S, a, b, z, R, ra, rb, e, k⟩
    simp only [binD, fdivD] at e
    split at e
    · next i j =>
      split at e
      · next hj =>
        cases e
        have q1 := ra.d_inv.int_inv; have q2 := rb.d_inv.int_inv
        subst q1; subst q2
        rcases hj with hj | hj
        · refine op_fdivW pins s σ H _ _ v u Q I rx ry ⟨_, _, rfl, rfl, hj, ?_⟩
          have e1 : i.fdiv j = i / j := Int.fdiv_eq_ediv_of_nonneg _ (Int.le_of_lt hj.1)
          show Q (V.int (i / j)) H
          rw [← e1]
          exact k _ H .refl R (.int _)
        · exact op_fdivA pins s σ H _ _ v u Q I rx ry ⟨_, _, rfl, rfl, hj, k _ H .refl R (.int _)⟩
      · cases e
    · cases e
  | mod =>
    rintro pins s σ H x y v u Q I rx ry ⟨ρ, S, a, b, z, R, ra, rb, e, k⟩
    simp only [binD, modD] at e
    split at e
    · next i j =>
      split at e
      · next hj =>
        cases e
        have q1 := ra.d_inv.int_inv; have q2 := rb.d_inv.int_inv
        subst q1; subst q2
        exact op_modN pins s σ H _ _ v u Q I rx ry ⟨_, _, rfl, rfl, hj, k _ H .refl R (.int _)⟩
      · cases e
    · cases e
  | pow =>
    rintro pins s σ H x y v u Q I rx ry ⟨ρ, S, a, b, z, R, ra, rb, e, k⟩
    simp only [binD, powD] at e
    split at e
    · next i j =>
      split at e
      · next hj =>
        cases e
        have q1 := ra.d_inv.int_inv; have q2 := rb.d_inv.int_inv
        subst q1; subst q2
        exact op_pow pins s σ H _ _ v u Q I rx ry ⟨_, _, rfl, rfl, hj, k _ H .refl R (.int _)⟩
      · cases e
    · cases e

/-! ### comparisons -/
abbrev COp.op : COp → CmpOp
  | .eq => .Eq | .ne => .NotEq | .lt => .Lt | .le => .LtE | .gt => .Gt | .ge => .GtE | .inn => .In | .nin => .NotIn
theorem dp_lst {L : Addr → Prop} {p : Addr} {xs : List D} {vs : List V} {d : PyData} (h : H p = some (.lst vs)) (hs : RelDs G L H xs vs) (e : toPD (.lst xs) = some d) : Dp G.K H (.ref p) d := by
  simp only [toPD, Option.map_eq_some_iff] at e
  obtain ⟨ds, e1, e2⟩ := e
  subst e2
  exact .lst (SqL.of h) (hs.dp e1)
theorem pyEq_inv {x y : D} {k : Bool} (e : pyEq x y = some k) : ∃ p q, toPD x = some p ∧ toPD y = some q ∧ SeqAt.shaped p = true ∧ SeqAt.shaped q = true ∧ k = PyData.eqv p q := by
  unfold pyEq at e
  split at e
  · next p q e1 e2 =>
    split at e
    · next h =>
      cases e
      simp only [Bool.and_eq_true] at h
      exact ⟨p, q, e1, e2, h.1, h.2, rfl⟩
    · cases e
  · cases e
theorem dec_strs {s t : List Nat} : decide (V.str (Str' s) = V.str (Str' t)) = decide (s = t) := by
  by_cases h : s = t
  · subst h; simp
  · have : V.str (Str' s) ≠ V.str (Str' t) := fun z => h (str_inj (by injection z))
    simp [h, this]
/-- the two sides as data -/
theorem eqD_inv {x y : V} {k : Bool} (R : RelS G ρ S H) (ra : RelW G ex (Live ρ S) ρ H a x) (rb : RelW G ex (Live ρ S) ρ H b y) (e : eqD a b S = some k) :
    (∃ s t, x = .str (Str' s) ∧ y = .str (Str' t) ∧ k = decide (s = t)) ∨ ∃ p q, Dp G.K H x p ∧ Dp G.K H y q ∧ SeqAt.shaped p = true ∧ SeqAt.shaped q = true ∧ k = PyData.eqv p q := by
  unfold eqD at e
  split at e
  · cases e
    exact .inl ⟨_, _, ra.d_inv.str_inv, rb.d_inv.str_inv, rfl⟩
  · obtain ⟨p, q, e1, e2, h1, h2, e3⟩ := pyEq_inv e
    exact .inr ⟨p, q, ra.d_inv.dp e1, rb.d_inv.dp e2, h1, h2, e3⟩
  · split at e
    · next s t e1 e2 =>
      obtain ⟨p, q, e3, e4, h1, h2, e5⟩ := pyEq_inv e
      obtain ⟨_, vs, rfl, h3, r3⟩ := ra.lstOf R e1
      obtain ⟨_, us, rfl, h4, r4⟩ := rb.lstOf R e2
      exact .inr ⟨p, q, dp_lst h3 r3 e3, dp_lst h4 r4 e4, h1, h2, e5⟩
    · cases e
theorem or_int {op : CmpOp} {p : Int → Int → Bool} (h : OpR X (compareOp op) (rI0 fun i j => .bl (p i j))) : OpR X (compareOp op) (rB2 G ex (intC p)) := by
  rintro pins s σ H x y v u Q I rx ry ⟨ρ, S, a, b, z, R, ra, rb, e, k⟩
  unfold intC at e
  split at e
  · cases e
    have q1 := ra.d_inv.int_inv; have q2 := rb.d_inv.int_inv
    subst q1; subst q2
    exact h pins s σ H _ _ v u Q I rx ry ⟨_, _, rfl, rfl, k⟩
  · cases e
theorem shaped_tup (ds : List PyData) : SeqAt.shaped (.tuple ds) = SeqAt.shaped (.list ds) := by
  unfold SeqAt.shaped
  simp [PyData.canLay0, PyData.depth]
def rInT (K : PySem.W.Frag) (neg : Bool) : R2 := fun x y H Q => ∃ d ds, Dp K H x d ∧ Dp K H y (.tuple ds) ∧ SeqAt.shaped d = true ∧ SeqAt.shaped (.tuple ds) = true ∧ Q (.bl (if neg then !ds.any fun z => PyData.eqv z d else ds.any fun z => PyData.eqv z d)) H
theorem op_inT {X : Cx} (hu : X.A.units + 65 < cLine) : OpR X (compareOp .In) (rInT X.K false) := by
  intro pins s σ H x y v u Q I rx ry h
  obtain ⟨d, ds, hd, he, sd, se, q⟩ := h
  obtain ⟨as, r1⟩ := Dp.reads I d x v hd rx
  obtain ⟨bs, r2⟩ := Dp.reads I (.tuple ds) y u he ry
  exact SeqAt.in_tuple_reads r2 r1 (SeqAt.canLay_of_shaped se) (SeqAt.canLay_of_shaped sd) (room_in_shaped sd hu) ⟨.bl _, H, I, rfl, q⟩
theorem op_notInT {X : Cx} (hu : X.A.units + 65 < cLine) : OpR X (compareOp .NotIn) (rInT X.K true) := by
  intro pins s σ H x y v u Q I rx ry h
  obtain ⟨d, ds, hd, he, sd, se, q⟩ := h
  obtain ⟨as, r1⟩ := Dp.reads I d x v hd rx
  obtain ⟨bs, r2⟩ := Dp.reads I (.tuple ds) y u he ry
  exact SeqAt.notIn_tuple_reads r2 r1 (SeqAt.canLay_of_shaped se) (SeqAt.canLay_of_shaped sd) (room_in_shaped sd hu) ⟨.bl _, H, I, rfl, q⟩
theorem in_inv {x y : V} {k : Bool} (R : RelS G ρ S H) (ra : RelW G ex (Live ρ S) ρ H a x) (rb : RelW G ex (Live ρ S) ρ H b y) (e : inD a b S = some k) :
    (∃ c t, x = .str (Str' [c]) ∧ y = .str (Str' t) ∧ k = decide (c ∈ t)) ∨
    (∃ p vs, y = .ref p ∧ (SqL G.K H p vs ∨ SqT G.K H p vs) ∧ flatV x = true ∧ vs.all flatV = true ∧ k = inV x vs) ∨
    (∃ d ds, Dp G.K H x d ∧ (Dp G.K H y (.list ds) ∨ Dp G.K H y (.tuple ds)) ∧ SeqAt.shaped d = true ∧ SeqAt.shaped (.list ds) = true ∧ k = ds.any fun z => PyData.eqv z d) := by
  unfold inD at e
  split at e
  · next c t =>
    cases e
    exact .inl ⟨c, t, ra.d_inv.str_inv, rb.d_inv.str_inv, rfl⟩
  · split at e
    · next kd ys e1 =>
      obtain ⟨p, vs, rfl, h1, r1⟩ := rb.seqOf R e1
      unfold pyIn at e
      split at e
      · next hf =>
        cases e
        simp only [Bool.and_eq_true] at hf
        refine .inr (.inl ⟨p, vs, rfl, ?_, (RelDs.flat ra.d_inv hf.1).1, RelDs.allFlat r1 hf.2, (RelDs.anyEq ra.d_inv hf.1 r1 hf.2).symm⟩)
        rcases h1 with ⟨_, h1⟩ | ⟨_, h1⟩
        · exact .inr h1
        · exact .inl h1
      · split at e
        · next p1 ps e2 e3 =>
          split at e
          · next hh =>
            cases e
            rcases h1 with ⟨h0, h1⟩ | ⟨_, h1⟩
            · exact .inr (.inr ⟨p1, ps, ra.d_inv.dp e2, .inr (.tup h1 (r1.dp e3)), hh.1, hh.2, rfl⟩)
            · exact .inr (.inr ⟨p1, ps, ra.d_inv.dp e2, .inl (.lst h1 (r1.dp e3)), hh.1, hh.2, rfl⟩)
          · cases e
        · cases e
    · cases e
  · cases e
variable {o : COp}
theorem or_cmp (hK : X.K = G.K) (hu : X.A.units + 65 < cLine) : OpR X (compareOp o.op) (rB2 G ex (cmpD o)) := by
  cases o with
  | lt => exact or_int op_lt
  | le => exact or_int op_le
  | gt => exact or_int op_gt
  | ge => exact or_int op_ge
  | eq =>
    rintro pins s σ H x y v u Q I rx ry ⟨ρ, S, a, b, z, R, ra, rb, e, k⟩
    rcases eqD_inv R ra rb e with ⟨p, q, rfl, rfl, rfl⟩ | ⟨p, q, h1, h2, h3, h4, rfl⟩
    · exact op_eq pins s σ H _ _ v u Q I rx ry ⟨rfl, by rw [dec_strs]; exact k⟩
    · exact op_eqD (by omega) pins s σ H _ _ v u Q I rx ry ⟨p, q, hK ▸ h1, hK ▸ h2, h3, h4, k⟩
  | ne =>
    rintro pins s σ H x y v u Q I rx ry ⟨ρ, S, a, b, z, R, ra, rb, e, k⟩
    simp only [cmpD, Option.map_eq_some_iff] at e
    obtain ⟨z', e, rfl⟩ := e
    rcases eqD_inv R ra rb e with ⟨p, q, rfl, rfl, rfl⟩ | ⟨p, q, h1, h2, h3, h4, rfl⟩
    · exact op_ne pins s σ H _ _ v u Q I rx ry ⟨rfl, by rw [dec_strs]; exact k⟩
    · exact op_neD (by omega) pins s σ H _ _ v u Q I rx ry ⟨p, q, hK ▸ h1, hK ▸ h2, h3, h4, k⟩
  | inn =>
    rintro pins s σ H x y v u Q I rx ry ⟨ρ, S, a, b, z, R, ra, rb, e, k⟩
    rcases in_inv R ra rb e with ⟨c, t, rfl, rfl, rfl⟩ | ⟨p, vs, rfl, h1, h2, h3, rfl⟩ | ⟨d, ds, h1, h2, h3, h4, rfl⟩
    · exact op_in_sign pins s σ H _ _ v u Q I rx ry ⟨_, _, rfl, rfl, by simpa using k⟩
    · exact op_in_seq pins s σ H _ _ v u Q I rx ry ⟨p, vs, rfl, hK ▸ h1, h2, h3, k⟩
    · rcases h2 with h2 | h2
      · exact op_inD (by omega) pins s σ H _ _ v u Q I rx ry ⟨d, ds, hK ▸ h1, hK ▸ h2, h3, h4, k⟩
      · exact op_inT (by omega) pins s σ H _ _ v u Q I rx ry ⟨d, ds, hK ▸ h1, hK ▸ h2, h3, (shaped_tup ds).trans h4, k⟩
  | nin =>
    rintro pins s σ H x y v u Q I rx ry ⟨ρ, S, a, b, z, R, ra, rb, e, k⟩
    simp only [cmpD, Option.map_eq_some_iff] at e
    obtain ⟨z', e, rfl⟩ := e
    rcases in_inv R ra rb e with ⟨c, t, rfl, rfl, rfl⟩ | ⟨p, vs, rfl, h1, h2, h3, rfl⟩ | ⟨d, ds, h1, h2, h3, h4, rfl⟩
    · exact op_notIn_sign pins s σ H _ _ v u Q I rx ry ⟨_, _, rfl, rfl, by simpa using k⟩
    · exact op_notIn_seq pins s σ H _ _ v u Q I rx ry ⟨p, vs, rfl, hK ▸ h1, h2, h3, k⟩
    · rcases h2 with h2 | h2
      · exact op_notInD (by omega) pins s σ H _ _ v u Q I rx ry ⟨d, ds, hK ▸ h1, hK ▸ h2, h3, h4, k⟩
      · exact op_notInT (by omega) pins s σ H _ _ v u Q I rx ry ⟨d, ds, hK ▸ h1, hK ▸ h2, h3, (shaped_tup ds).trans h4, k⟩

/-! ### truth -/
theorem isEmpty_len {α β : Type} {xs : List α} {ys : List β} (h : xs.length = ys.length) : (!xs.isEmpty) = !ys.isEmpty := by
  cases xs <;> cases ys <;> simp_all
theorem tru_of {k : Bool} (hK : X.K = G.K) (R : RelS G ρ S H) (r : RelW G ex (Live ρ S) ρ H w v) (e : truthy w S = some k) : TruV X.K v H k := by
  have viaSeq : ∀ {kd xs}, seqOf w S = some (kd, xs) → k = !xs.isEmpty → TruV X.K v H k := fun {kd xs} e1 e2 => by
    obtain ⟨p, vs, rfl, h1, r1⟩ := r.seqOf R e1
    rcases h1 with ⟨_, h1⟩ | ⟨_, h1⟩
    · exact .inr (.inl ⟨vs, hK ▸ h1, e2.trans (isEmpty_len r1.length)⟩)
    · exact .inl ⟨vs, hK ▸ h1, e2.trans (isEmpty_len r1.length)⟩
  have viaMap : ((seqOf w S).map fun p => !p.2.isEmpty) = some k → TruV X.K v H k := fun e1 => by
    simp only [Option.map_eq_some_iff] at e1
    obtain ⟨⟨kd, xs⟩, e2, e3⟩ := e1
    exact viaSeq e2 e3.symm
  cases w with
  | d x =>
    have rd := r.d_inv
    cases x with
    | non => cases rd; simp only [truthy] at e; cases e; exact rfl
    | bl b => cases rd; simp only [truthy] at e; cases e; exact rfl
    | int i => cases rd; simp only [truthy] at e; cases e; exact rfl
    | str t =>
      cases rd
      simp only [truthy] at e
      split at e
      · next hl =>
        cases e
        refine ⟨by rw [str_len]; exact hl, ?_⟩
        rw [str_len]
        cases t with
        | nil => rfl
        | cons c t => simp; omega
      · cases e
    | tup xs => exact viaMap e
    | lst xs => exact viaMap e
    | dic _ => simp [truthy] at e
    | obj _ _ => simp [truthy] at e
    | fn _ => simp [truthy] at e
  | loc l => exact viaMap e
  | scr ns => exact viaMap e
  | exn c fs => exact viaMap e
/-! ### items -/
theorem atI_map {α β : Type} {xs : List α} {i : Int} {x : α} (h : atI xs i = some x) : ∃ j, ixN xs.length i = some j ∧ xs[j]? = some x := by
  unfold atI at h
  cases e : ixN xs.length i with
  | none => rw [e] at h; cases h
  | some j => rw [e] at h; exact ⟨j, rfl, h⟩
theorem RelDs.atI {xs : List D} {vs : List V} {i : Int} {x : D} {L : Addr → Prop} (h : RelDs G L H xs vs) (e : L2.atI xs i = some x) : ∃ v, L2.atI vs i = some v ∧ RelD G L H x v := by
  obtain ⟨j, e1, e2⟩ := atI_map (β := V) e
  obtain ⟨v, e3, r⟩ := h.get e2
  refine ⟨v, ?_, r⟩
  unfold L2.atI
  rw [← h.length, e1]
  exact e3
theorem RelWs.atI {xs : List W} {vs : List V} {i : Int} {x : W} {L : Addr → Prop} (h : RelWs G ex L ρ H xs vs) (e : L2.atI xs i = some x) : ∃ v, L2.atI vs i = some v ∧ RelW G ex L ρ H x v := by
  obtain ⟨j, e1, e2⟩ := atI_map (β := V) e
  obtain ⟨v, e3, r⟩ := h.get e2
  refine ⟨v, ?_, r⟩
  unfold L2.atI
  rw [← h.length, e1]
  exact e3
theorem RelW.none_of {L : Addr → Prop} (h : RelW G none L ρ H w v) : RelW G ex L ρ H w v := by
  cases h with
  | d h => exact .d h
  | loc h => exact .loc h
  | scr h => exact .scr h
  | exn h _ _ _ => cases h
def rIxW (G : Wd) (ex : Ex) : R2 := fun x y H Q => ∃ ρ S a b z, RelS G ρ S H ∧ RelW G ex (Live ρ S) ρ H a x ∧ RelW G ex (Live ρ S) ρ H b y ∧ ixD a b S = some z ∧ ∀ v, RelW G ex (Live ρ S) ρ H z v → Q v H
theorem ix_w (hK : X.K = G.K) : IxR X (rIxW G ex) := by
  rintro e1 e2 pins s σ H x y v u Q I rx ry ⟨ρ, S, a, b, z, R, ra, rb, e, k⟩ hsub
  unfold ixD at e
  split at e
  · next i =>
    have q2 := rb.d_inv.int_inv
    subst q2
    have viaSeq : ∀ {kd xs x'}, seqOf a S = some (kd, xs) → L2.atI xs i = some x' → z = .d x' → wpAny (model X.prog X.w) X.A (subscriptTail e1 e2 v u) (EP X pins σ Q) X.xe s := fun {kd xs x'} g1 g2 g3 => by
      obtain ⟨p, vs, rfl, h1, r1⟩ := ra.seqOf R g1
      obtain ⟨v', g4, r4⟩ := r1.atI g2
      subst g3
      rcases h1 with ⟨_, h1⟩ | ⟨_, h1⟩
      · exact ix_tup e1 e2 pins s σ H _ _ v u Q I rx ry ⟨p, vs, i, v', rfl, rfl, hK ▸ h1, g4, k _ (.d r4)⟩ hsub
      · exact ix_list e1 e2 pins s σ H _ _ v u Q I rx ry ⟨p, vs, i, v', rfl, rfl, hK ▸ h1, g4, k _ (.d r4)⟩ hsub
    split at e
    · next t =>
      split at e
      · next hl =>
        simp only [Option.map_eq_some_iff] at e
        obtain ⟨c, e3, e4⟩ := e
        subst e4
        have q1 := ra.d_inv.str_inv
        subst q1
        refine ix_str e1 e2 pins s σ H _ _ v u Q I rx ry ⟨Str' t, i, c, rfl, rfl, by rw [str_len]; exact hl, by simpa using e3, ?_⟩ hsub
        exact k _ (.d (.str [c]))
      · cases e
    · next l =>
      split at e
      · next xs g1 =>
        simp only [Option.map_eq_some_iff] at e
        obtain ⟨x', e3, e4⟩ := e
        exact viaSeq (kd := .lst) (xs := xs) (by simp only [seqOf, g1]) e3 e4.symm
      · next ws g1 =>
        cases ra with
        | loc ha =>
          cases R.cell l _ _ g1 ha with
          | lsw h1 h2 =>
            obtain ⟨v', g4, r4⟩ := h2.atI e
            exact ix_list e1 e2 pins s σ H _ _ v u Q I rx ry ⟨_, _, i, v', rfl, rfl, SqL.of h1, g4, k _ r4.none_of⟩ hsub
      · cases e
    · split at e
      · next kd xs g1 =>
        simp only [Option.map_eq_some_iff] at e
        obtain ⟨x', e3, e4⟩ := e
        exact viaSeq g1 e3 e4.symm
      · cases e
  · cases e
/-! ### slices -/
def rSlW (G : Wd) (ex : Ex) : V → Option Int → Option Int → Hp → VK → Prop := fun x lo hi H Q => ∃ ρ S a z, RelS G ρ S H ∧ RelW G ex (Live ρ S) ρ H a x ∧ slD a lo hi S = some z ∧ ∀ v H', Ext ρ S H ρ S H' → RelS G ρ S H' → RelD G (Live ρ S) H' z v → Q v H'
theorem sIx_whole {n : Nat} {lo hi : Option Int} (h : HT.sIx n 0 lo = 0 ∧ HT.sIx n n hi = n) {α : Type} {xs : List α} (e : xs.length = n) : cut xs lo hi = xs := by
  unfold RI.cut
  subst e
  rw [h.1, h.2]
  simp
theorem sl_w (hK : X.K = G.K) : SlR X (rSlW G ex) := by
  rintro pins s σ H x v vl vu lo hi sl Q I rx hs pl pu ⟨ρ, S, a, z, R, ra, e, k⟩
  unfold slD at e
  split at e
  · next t =>
    split at e
    · next hl =>
      cases e
      have q1 := ra.d_inv.str_inv
      subst q1
      refine sl_str pins s σ H _ v vl vu lo hi sl Q I rx hs pl pu ⟨Str' t, rfl, by rw [str_len]; exact hl, ?_⟩
      have ec : cutS (Str' t) lo hi = Str' (RI.cut t lo hi) := by
        unfold cutS RI.cut
        rw [str_len]
      rw [ec]
      exact k _ H .refl R (.str _)
    · cases e
  · split at e
    · next xs g1 =>
      cases e
      obtain ⟨p, vs, rfl, h1, r1⟩ := ra.seqOf R g1
      rcases h1 with ⟨_, h1⟩ | ⟨h0, _⟩
      · refine sl_tupA pins s σ H _ v vl vu lo hi sl Q I rx hs pl pu ⟨p, vs, rfl, hK ▸ h1, fun hw => ?_, fun _ q hq => ?_⟩
        · rw [sIx_whole hw r1.length] at k
          exact k _ H .refl R (.tup h1 r1)
        · exact k _ _ (.newObj hq) (R.newObj hq) (.newTup R hq (r1.cut _ _))
      · cases h0
    · next xs g1 =>
      cases e
      obtain ⟨p, vs, rfl, h1, r1⟩ := ra.seqOf R g1
      rcases h1 with ⟨h0, _⟩ | ⟨_, h1⟩
      · cases h0
      · exact sl_list pins s σ H _ v vl vu lo hi sl Q I rx hs pl pu ⟨p, vs, rfl, hK ▸ h1, fun q hq => k _ _ (.newObj hq) (R.newObj hq) (.newLst R hq (r1.cut _ _))⟩
    · cases e
end
end RI
/-! RIL: sum(xs, []) of a list of lists. -/
namespace RI
open PySem PySem.Spec PyProof.Rows
section
variable {prog : Program} {w : World} {A : Around} {E : Value → Shared → Prop} {s : Shared}
theorem args_sum2 (a b : Value) : argsOk "sum" ⟨[a, b], []⟩ := by unfold argsOk; kernel_rfl
theorem sub_list_str' : isSubtype (.type "list") (.type "str") = pure false := by rw [isSubtype_type]; kernel_rfl
theorem sub_list_bytes' : isSubtype (.type "list") (.type "bytes") = pure false := by rw [isSubtype_type]; kernel_rfl
theorem sub_list_bytearray' : isSubtype (.type "list") (.type "bytearray") = pure false := by rw [isSubtype_type]; kernel_rfl
/-- a list and a list -/
theorem add_listsQ {l b : Addr} {vs ws : List Value} {Q : Value → Shared → Prop} (hl : s.heap.IsList l vs.toArray) (hb : s.heap.IsList b ws.toArray)
    (h : Q (.ref s.heap.objs.size) { s with heap := s.heap.push { cls := .type "list", data := .seq (vs ++ ws).toArray } }) (hsz : vs.length + ws.length ≤ sizeLine) :
    wpAny (model prog w) A (binaryOp .Add (.ref l) (.ref b)) Q E s := by
  obtain ⟨⟨cls, dd, data, sl⟩, ho, hc, n, hd⟩ := id hl
  obtain ⟨⟨cls2, dd2, data2, sl2⟩, ho2, hc2, n2, hd2⟩ := id hb
  simp only at hc hd hc2 hd2
  subst hc hd hc2 hd2
  have e : vs.toArray ++ ws.toArray = (vs ++ ws).toArray := by simp
  refine concat_meets ⟨_, ho, rfl⟩ ⟨_, ho2, rfl⟩ noFill_list_add seq_list_add PySem.F.slot_list_add PySem.F.entry_list_add (PySem.F.args_list_add_2 _ _) (list_addW l b vs.toArray ws.toArray n n2 dd dd2 sl sl2 (by simpa using hsz)) ⟨ho, ho2, ?_⟩
  rw [e]
  exact h
end
section
variable {prog : Program} {w : World} {A : Around} {R : Result → Shared → Prop} {I : Addr} {fp wr : List Addr} {n : Nat} {P : Nat → Value → Prop} {St : Nat → Heap → Prop}
/-- so far -/
structure SoFar (S : Addr) (wr : List Addr) (N : Nat) (e : Addr) (ys : List (List Value)) (i : Nat) (p : Addr) (h : Heap) : Prop where
  l : h.IsList p (ys.take i).flatten.toArray
  s : p ≠ S
  w : p ∉ wr
  z : i = 0 → p = e
  n : 0 < i → N ≤ p ∧ h.get? p = some { cls := .type "list", data := .seq (ys.take i).flatten.toArray }
theorem SoFar.keep {S : Addr} {N : Nat} {e p : Addr} {ys : List (List Value)} {i : Nat} {h h' : Heap} (x : SoFar S wr N e ys i p h) (k : ∀ b o, b ∉ wr → b ≠ S → h.get? b = some o → h'.get? b = some o) : SoFar S wr N e ys i p h' :=
  ⟨x.l.at fun o e => k p o x.w x.s e, x.s, x.w, x.z, fun h => ⟨(x.n h).1, k p _ x.w x.s (x.n h).2⟩⟩
theorem codeAny_sum_loopL (W : Walks prog w A.in1 I fp wr n P St) (ys : List (List Value)) (hn : n = ys.length) (e : Addr) (N : Nat) (S : Addr) (hSf : S ∉ fp) 
    (hsz : ys.flatten.length ≤ sizeLine) (Lb : Nat → Addr → Prop) (hP : ∀ i v, P i v → ∃ b, v = .ref b ∧ Lb i b)
    (Hy : Heap → Prop) (hHy : ∀ h h', Hy h → (∀ b o, b ∉ wr → b ≠ S → h.get? b = some o → h'.get? b = some o) → Hy h') (hyl : ∀ h i b y, Hy h → Lb i b → ys[i]? = some y → h.IsList b y.toArray) (hNS : N ≤ S) (hwr : ∀ i h, St i h → ∀ b ∈ wr, b < h.objs.size) :
    ∀ (k i : Nat) (s : Shared) (p : Addr) (c : Nat) (st : Int), st = 2 → n - i = k → i ≤ n → St i s.heap → Hy s.heap → s.heap.get? S = some { cls := .type "list", dict := none, data := .seq #[.ref p] c, slots := #[] } → SoFar S wr N e ys i p s.heap →
    (∀ h' tk p, SoFar S wr N e ys n p h' → (∀ b o, b ∉ wr → b ≠ S → s.heap.get? b = some o → h'.get? b = some o) → R (.ok (.ret (.ref p))) { s with heap := h', toks := tk }) →
    codeAny (model prog w) A (.builtin "sum.loop" ⟨[.ref I, .ref S, rawInt st, rawInt 0], []⟩) R s := by
  have hSw : S ∉ wr := fun h => hSf (W.sub _ h)
  intro k
  induction k with
  | zero =>
    intro i s p c st hst2 hk hi hst hy hS hT hR
    have hin : i = n := by omega
    subst hin
    refine codeAny_builtin F.entry_sum_loop ?_
    rw [Around.under_plainId F.plain_sum_loop _]
    show wpAny _ A.in1 (seqItems? (.ref S) >>= _) _ _ s
    refine wpAny_bind (wpAny_seqItems hS rfl ?_)
    show wpAny _ A.in1 (tryCatch (pyNext (.ref I)) _ >>= _) _ _ s
    refine wpAny_bind (wpAny_tryCatch (W.done s _ _ hst fun h' tk hk' => ?_))
    exact wpAny_pure (hR h' tk p (hT.keep fun b o hb _ e => hk' b o hb e) fun b o hbw _ e => hk' b o hbw e)
  | succ k ih =>
    intro i s p c st hst2 hk hi hst hy hS hT hR
    have hlt : i < n := by omega
    subst hst2
    refine codeAny_builtin F.entry_sum_loop ?_
    rw [Around.under_plainId F.plain_sum_loop _]
    show wpAny _ A.in1 (seqItems? (.ref S) >>= _) _ _ s
    refine wpAny_bind (wpAny_seqItems hS rfl ?_)
    show wpAny _ A.in1 (tryCatch (pyNext (.ref I)) _ >>= _) _ _ s
    refine wpAny_bind (wpAny_tryCatch (W.item i s _ _ hlt hst fun v h' tk hPv hst' hk' => ?_))
    obtain ⟨b, rfl, hb⟩ := hP i v hPv
    have hS' := hk' S _ hSw hS
    have hT' := hT.keep fun b o hb _ e => hk' b o hb e
    have hy' := hHy _ _ hy fun b o hb _ e => hk' b o hb e
    have hil : i < ys.length := by omega
    have hbl := hyl _ i b ys[i] hy' hb (List.getElem?_eq_getElem hil)
    have hfl : (ys.take i).flatten ++ ys[i] = (ys.take (i + 1)).flatten := by
      rw [List.take_succ_eq_append_getElem hil, List.flatten_append]
      simp
    have hfz : (ys.take i).flatten.length + ys[i].length ≤ sizeLine := by
      have h1 : (ys.take (i + 1)).flatten.length ≤ ys.flatten.length := by
        conv => rhs; rw [← List.take_append_drop (i + 1) ys, List.flatten_append, List.length_append]
        omega
      rw [← hfl, List.length_append] at h1
      omega
    have hSlt : S < h'.objs.size := Heap.lt_size hS'
    show wpAny _ A.in1 ((holding [Value.ref b] (binaryOp .Add (.ref p) (.ref b))).attempt >>= _) _ _ _
    refine wpAny_bind (wpAny_attempt (wpAny_holding (add_listsQ hT'.l hbl ?_ hfz)))
    rw [hfl]
    have hS1 := Heap.get?_push_of_some { cls := .type "list", data := .seq (ys.take (i + 1)).flatten.toArray } hS'
    show wpAny _ A.in1 (updateSeq S (fun _ => #[.ref h'.objs.size]) >>= _) _ _ _
    refine wpAny_bind (wpAny_updateSeq hS1 rfl ?_)
    have hS2 := Heap.get?_update_self (Obj.mapSeq fun _ => #[Value.ref h'.objs.size]) hS1 rfl
    refine wpAny_bind (wpAny_letGo ?_)
    have up : ∀ b o, b ≠ S → h'.get? b = some o → ((((h'.push { cls := .type "list", data := .seq (ys.take (i + 1)).flatten.toArray }).update S (Obj.mapSeq fun _ => #[Value.ref h'.objs.size])).update S (Obj.mapSeq fun _ => #[Value.ref h'.objs.size])).get? b = some o) := fun b o hb e =>
      (Heap.get?_update_other _ _ (Ne.symm hb)).trans ((Heap.get?_update_other _ _ (Ne.symm hb)).trans (Heap.get?_push_of_some _ e))
    have hnew : (((h'.push { cls := .type "list", data := .seq (ys.take (i + 1)).flatten.toArray }).update S (Obj.mapSeq fun _ => #[Value.ref h'.objs.size])).update S (Obj.mapSeq fun _ => #[Value.ref h'.objs.size])).get? h'.objs.size = some { cls := .type "list", data := .seq (ys.take (i + 1)).flatten.toArray } :=
      (Heap.get?_update_other _ _ (Nat.ne_of_lt hSlt)).trans ((Heap.get?_update_other _ _ (Nat.ne_of_lt hSlt)).trans (Heap.get?_push_size _ rfl))
    refine wpAny_bind ?_
    refine wpAny_updateSeq hS2 rfl (wpAny_pure ⟨plainId_quiet F.plain_sum_loop _, ih (i + 1) _ h'.objs.size _ 2 rfl (by omega) hlt (W.frame _ _ _ hst' fun b hb o e => up b o (fun h : b = S => hSf (by rw [← h]; exact hb)) e) (hHy _ _ hy' fun b o _ hb e => up b o hb e) (Heap.get?_update_self _ hS2 rfl) ⟨⟨_, hnew, rfl, 0, rfl⟩, Nat.ne_of_gt hSlt, fun hm => Nat.lt_irrefl _ (hwr _ _ hst' _ hm), fun h => by omega, fun _ => ⟨Nat.le_trans hNS (Nat.le_of_lt hSlt), hnew⟩⟩ ?_⟩)
    · intro h'' tk'' p'' hT'' hk''
      exact hR h'' tk'' p'' hT'' fun b o hbw hbS e => hk'' b o hbw hbS (up b o hbS (hk' b o hbw e))
end
section
variable {prog : Program} {w : World} {A : Around} {E : Value → Shared → Prop} {s : Shared}
theorem sum_lists_raw {l e : Addr} {its : Array Value} {ys : List (List Value)} {Q : Value → Shared → Prop} (hh : A.handled = none) (hl : s.heap.IsList l its) (hn : its.size = ys.length)
    (hi : ∀ (i : Nat) (v : Value), its[i]? = some v → ∃ b, v = .ref b ∧ ∀ y, ys[i]? = some y → s.heap.IsList b y.toArray) (he : s.heap.IsList e #[]) (hsz : ys.flatten.length ≤ sizeLine)
    (h : ∀ h' tk p, (ys = [] → p = e) → (ys ≠ [] → s.heap.objs.size ≤ p ∧ h'.get? p = some { cls := .type "list", data := .seq ys.flatten.toArray }) → (∀ b o, s.heap.get? b = some o → h'.get? b = some o) → Q (.ref p) { s with heap := h', toks := tk }) :
    wpAny (model prog w) A (call (.builtin "sum") [.ref l, .ref e]) Q E s := by
  refine call_function_tree F.kind_sum F.plain_sum F.entry_sum (args_sum2 _ _) ?_
  unfold Builtin.«sum»
  simp only [List.length_cons, List.length_nil]
  rw [if_neg (by decide)]
  refine wpAny_bind (wpAny_of_eq (show Builtin.Builtins.bindParams "sum" ["start"] 0 { pos := [.ref e], kw := [] } = pure [some (.ref e)] from rfl) ?_)
  have hlt : l < s.heap.objs.size := by obtain ⟨_, e, _⟩ := hl; exact Heap.lt_size e
  have helt : e < s.heap.objs.size := by obtain ⟨_, e, _⟩ := he; exact Heap.lt_size e
  refine wpAny_bind (wpAny_pyIter_list hl ?_)
  refine wpAny_bind (wpAny_pure ?_)
  have he1 : (s.heap.push { cls := .type "list_iterator", data := .fields #[.ref l, .int 0 0] }).IsList e #[] := he.push _
  have hT : Shared.TypeIs { s with heap := s.heap.push { cls := .type "list_iterator", data := .fields #[.ref l, .int 0 0] } } (.ref e) "list" := Heap.IsList.typeIs (s := { s with heap := s.heap.push { cls := .type "list_iterator", data := .fields #[.ref l, .int 0 0] } }) he1
  simp only [List.forIn_cons, List.forIn_nil]
  refine wpAny_bind (wpAny_bind (wpAny_bind (wpAny_isInstance (T := "list") (b := false) hT sub_list_str' ?_)))
  simp only [Bool.false_eq_true, if_false]
  refine wpAny_pure (wpAny_bind (wpAny_bind (wpAny_isInstance (T := "list") (b := false) hT sub_list_bytes' ?_)))
  simp only [Bool.false_eq_true, if_false]
  refine wpAny_pure (wpAny_bind (wpAny_bind (wpAny_isInstance (T := "list") (b := false) hT sub_list_bytearray' ?_)))
  simp only [Bool.false_eq_true, if_false]
  refine wpAny_pure (wpAny_pure ?_)
  refine wpAny_bind (wpAny_newObj_type ?_)
  have hsp : (s.heap.push { cls := .type "list_iterator", data := .fields #[.ref l, .int 0 0] }).objs.size = s.heap.objs.size + 1 := Heap.size_push ..
  have W := Walks.list (prog := prog) (w := w) (A := A.in1) hh s.heap.objs.size l (Nat.ne_of_lt hlt) its
  refine wpAny_pure ⟨plainId_quiet F.plain_sum_loop _, codeAny_sum_loopL W ys hn e s.heap.objs.size (s.heap.push { cls := .type "list_iterator", data := .fields #[.ref l, .int 0 0] }).objs.size (fun hm => ?_) hsz
    (fun i b => its[i]? = some (.ref b)) (fun i v hv => ?_) (fun h => ∀ b o, s.heap.get? b = some o → h.get? b = some o) (fun h h' hk k b o e => k b o (fun hm => ?_) (fun hm => ?_) (hk b o e))
    (fun h i b y hk hb hy => ?_) ?_ (fun i h hst b hb => ?_) its.size 0 _ e 0 2 rfl (by omega) (Nat.zero_le _) ?_ (fun b o e => Heap.get?_push_of_some _ (Heap.get?_push_of_some _ e)) (Heap.get?_push_size _ rfl) ?_ (fun h' tk p hT' hk => ?_)⟩
  · rcases List.mem_cons.mp hm with e1 | hm
    · exact absurd (hsp.symm.trans e1) (Nat.succ_ne_self _)
    · have e1 := hsp.symm.trans (List.mem_singleton.mp hm)
      exact Nat.lt_irrefl _ (Nat.lt_trans (Nat.lt_succ_self _) (e1 ▸ hlt))
  · obtain ⟨b, rfl, _⟩ := hi i v hv
    exact ⟨b, rfl, hv⟩
  · exact Nat.lt_irrefl _ ((List.mem_singleton.mp hm) ▸ Heap.lt_size e)
  · exact Nat.lt_irrefl _ (Nat.lt_trans (Nat.lt_succ_self _) ((hm.trans hsp) ▸ Heap.lt_size e))
  · obtain ⟨b', e', g⟩ := hi i _ hb
    cases e'
    exact (g y hy).at fun o e => hk b o e
  · exact hsp ▸ Nat.le_succ _
  · obtain ⟨o, e, _⟩ := hst.1
    exact (List.mem_singleton.mp hb) ▸ Heap.lt_size e
  · exact ⟨⟨_, Heap.get?_push_of_some _ (Heap.get?_push_size _ rfl), rfl, rfl⟩, (hl.push _).push _⟩
  · refine ⟨by simpa using he1.push _, fun e1 => ?_, fun hm => ?_, fun _ => rfl, fun h => absurd h (Nat.lt_irrefl _)⟩
    · exact Nat.lt_irrefl _ (Nat.lt_trans (Nat.lt_succ_self _) ((e1.trans hsp) ▸ helt))
    · exact Nat.lt_irrefl _ ((List.mem_singleton.mp hm) ▸ helt)
  · have hl' := hT'.n
    rw [hn, List.take_length] at hl'
    refine h h' tk p (fun e0 => hT'.z (by rw [hn, e0]; rfl)) (fun e0 => hl' (List.length_pos_iff.mpr e0)) fun b o e => hk b o (fun hm => ?_) (fun e1 => ?_) (Heap.get?_push_of_some _ (Heap.get?_push_of_some _ e))
    · exact Nat.lt_irrefl _ ((List.mem_singleton.mp hm) ▸ Heap.lt_size e)
    · exact Nat.lt_irrefl _ (Nat.lt_trans (Nat.lt_succ_self _) ((e1.trans hsp) ▸ Heap.lt_size e))
end
section
open L2
variable {X : Cx}
/-- lists at these places -/
inductive Lsts (H : Hp) : List V → List (List V) → Prop
  | nil : Lsts H [] []
  | cons {b : Addr} {y : List V} {vs : List V} {ys : List (List V)} : H b = some (.lst y) → Lsts H vs ys → Lsts H (.ref b :: vs) (y :: ys)
def rSumL (K : PySem.W.Frag) : List V → Hp → VK → Prop := fun vs H Q => ∃ (a e : Addr) (bs : List V) (ys : List (List V)), vs = [V.ref a, V.ref e] ∧ SqL K H a bs ∧ Lsts H bs ys ∧ SqL K H e [] ∧ ys.flatten.length ≤ sizeLine ∧
  (ys = [] → Q (.ref e) H) ∧ (ys ≠ [] → ∀ p, H p = none → Q (.ref p) (upd H p (.lst ys.flatten)))
theorem lsts_raw {pins : List (Addr × Obj)} {s : Shared} {σ : L2.St} {H : Hp} (I : Inv X pins σ H s) : ∀ {bs : List V} {ys : List (List V)} {its : List Value}, Lsts H bs ys → Vals bs its → ∃ yv : List (List Value), yv.length = its.length ∧ yv.flatten.length = ys.flatten.length ∧ Vals ys.flatten yv.flatten ∧ (yv = [] ↔ ys = []) ∧
    ∀ (i : Nat) (v : Value), its[i]? = some v → ∃ b, v = .ref b ∧ ∀ y, yv[i]? = some y → s.heap.IsList b y.toArray
  | _, _, _, .nil, .nil => ⟨[], rfl, rfl, .nil, by simp, fun i v h => by simp at h⟩
  | _, _, _, .cons (b := b) (y := y) h hs, .cons r rs => by
    obtain ⟨yv, h1, h2, h3, h4, h5⟩ := lsts_raw I hs rs
    obtain ⟨its, rv, hl, _⟩ := I.list (a := b) (.inl (.inl h))
    cases r
    refine ⟨its :: yv, by simp [h1], by simp [h2, rv.length], ?_, by simp, fun i v hv => ?_⟩
    · rw [List.flatten_cons, List.flatten_cons]
      exact rv.append h3
    · cases i with
      | zero =>
        simp at hv
        subst hv
        refine ⟨b, rfl, fun y hy => ?_⟩
        simp at hy
        subst hy
        exact hl.isList
      | succ i => exact h5 i v (by simpa using hv)
theorem cr_sumL (hc : X.calm = true) : CallR X (.builtin "sum") (rSumL X.K) := by
  intro pins s σ H vs us Q I r h
  obtain ⟨a, e, bs, ys, rfl, ha, hb, he, hz, q0, q1⟩ := h
  obtain ⟨its, rv, hl, _⟩ := I.list ha
  obtain ⟨eits, re, hle, _⟩ := I.list he
  cases re
  have hus : us = [Value.ref a, Value.ref e] := by
    cases r with
    | cons r t =>
      cases t with
      | cons r2 t2 =>
        cases t2
        cases r
        cases r2
        rfl
  subst hus
  obtain ⟨yv, h1, h2, h3, h4, h5⟩ := lsts_raw I hb rv
  refine sum_lists_raw (ys := yv) (I.ok.hd hc) hl.isList (by simpa using h1.symm) (fun i v hv => h5 i v (by simpa using hv)) hle.isList (by rw [h2]; exact hz) fun h' tk p z1 z2 hk => ?_
  by_cases e0 : ys = []
  · have := z1 (h4.mpr e0)
    subst this
    exact ⟨.ref p, H, I.kept hk, rfl, q0 e0⟩
  · obtain ⟨n1, n2⟩ := z2 fun h => e0 (h4.mp h)
    exact ⟨.ref p, upd H p (.lst ys.flatten), I.laid hk n1 ⟨hz, _, _, h3, n2⟩, rfl, q1 e0 p (I.hok.fresh n1)⟩
end
end RI
/-! RI6: built-in functions and methods. -/
namespace RI
open PySem PySem.Spec PyProof.Rows L2

section
variable {G : Wd} {ex : Ex} {ρ : Rho} {S : Store} {H : Hp} {L : Addr → Prop} {X : Cx}
theorem RelDs.bls : ∀ {xs : List D} {vs : List V} {k : Bool}, RelDs G L H xs vs → allB xs = some k → ∃ bs : List Bool, vs = bs.map V.bl ∧ k = bs.all id
  | _, _, k, .nil, e => by simp only [allB] at e; cases e; exact ⟨[], rfl, rfl⟩
  | x :: xs, _, k, .cons a h, e => by
    cases a <;> simp only [allB] at e <;> try cases e
    simp only [Option.map_eq_some_iff] at e
    obtain ⟨k', e1, e2⟩ := e
    obtain ⟨bs, e3, e4⟩ := RelDs.bls h e1
    subst e3; subst e4; subst e2
    exact ⟨_ :: bs, rfl, rfl⟩
theorem RelDs.bls' : ∀ {xs : List D} {vs : List V} {k : Bool}, RelDs G L H xs vs → anyB xs = some k → ∃ bs : List Bool, vs = bs.map V.bl ∧ k = bs.any id
  | _, _, k, .nil, e => by simp only [anyB] at e; cases e; exact ⟨[], rfl, rfl⟩
  | x :: xs, _, k, .cons a h, e => by
    cases a <;> simp only [anyB] at e <;> try cases e
    simp only [Option.map_eq_some_iff] at e
    obtain ⟨k', e1, e2⟩ := e
    obtain ⟨bs, e3, e4⟩ := RelDs.bls' h e1
    subst e3; subst e4; subst e2
    exact ⟨_ :: bs, rfl, rfl⟩
theorem RelDs.ints_of : ∀ {xs : List D} {vs : List V} {ns : List Int}, RelDs G L H xs vs → intsOf xs = some ns → vs = ns.map V.int
  | _, _, ns, .nil, e => by simp only [intsOf] at e; cases e; rfl
  | x :: xs, _, ns, .cons a h, e => by
    cases a <;> simp only [intsOf] at e <;> try cases e
    simp only [Option.map_eq_some_iff] at e
    obtain ⟨k', e1, e2⟩ := e
    subst e2
    rw [RelDs.ints_of h e1]; rfl
theorem RelDs.strs_of : ∀ {xs : List D} {vs : List V} {ns : List (List Nat)}, RelDs G L H xs vs → strsOf xs = some ns → vs = (ns.map Str').map V.str
  | _, _, ns, .nil, e => by simp only [strsOf] at e; cases e; rfl
  | x :: xs, _, ns, .cons a h, e => by
    cases a <;> simp only [strsOf] at e <;> try cases e
    simp only [Option.map_eq_some_iff] at e
    obtain ⟨k', e1, e2⟩ := e
    subst e2
    rw [RelDs.strs_of h e1]; rfl
theorem RelDs.of_strs : ∀ (ns : List (List Nat)), RelDs G L H (ns.map D.str) ((ns.map Str').map V.str)
  | [] => .nil
  | n :: ns => .cons (.str n) (RelDs.of_strs ns)
theorem RelWs.one {w : W} {vs : List V} (h : RelWs G ex L ρ H [w] vs) : ∃ v, vs = [v] ∧ RelW G ex L ρ H w v := by
  cases h with
  | cons a h => cases h; exact ⟨_, rfl, a⟩
theorem RelWs.nil_inv {vs : List V} (h : RelWs G ex L ρ H [] vs) : vs = [] := by cases h; rfl

theorem digits_of : ∀ {t : List Nat}, digitsOk t = true → NumText.AllDigits t
  | [], _ => fun c hc => by cases hc
  | x :: t, h => fun c hc => by
    simp only [digitsOk, Bool.and_eq_true, decide_eq_true_eq] at h
    rcases List.mem_cons.mp hc with e | e
    · subst e; exact h.1
    · exact digits_of h.2 c e
def rBi (G : Wd) (ex : Ex) (b : BI) : List V → Hp → VK → Prop := fun xs H Q => ∃ ρ S ws z, RelS G ρ S H ∧ RelWs G ex (Live ρ S) ρ H ws xs ∧ biD b ws S = some z ∧
  ∀ v H', Ext ρ S H ρ S H' → RelS G ρ S H' → RelD G (Live ρ S) H' z v → Q v H'
abbrev BI.fn : BI → Value
  | .abs => .builtin "abs" | .all => .builtin "all" | .any => .builtin "any" | .int => .type "int" | .len => .builtin "len" | .list => .type "list" | .str => .type "str" | .sum => .builtin "sum"
  | .tuple => .type "tuple" | .min => .builtin "min" | .repr => .builtin "repr" | .sorted => .builtin "sorted"
theorem decI_str (i : Int) : (toString i : Str) = Str' (decI i) := by
  show Str.ofString (toString i) = _
  unfold decI Str'
  simp
theorem RelDs.lsts : ∀ {xs : List D} {vs : List V} {zs : List D}, RelDs G L H xs vs → lstsOf xs = some zs → ∃ ys : List (List V), Lsts H vs ys ∧ RelDs G L H zs ys.flatten ∧ (ys = [] → zs = [])
  | [], _, _, .nil, e => by
    cases e
    exact ⟨[], .nil, .nil, fun _ => rfl⟩
  | x :: xs, _, _, .cons h hs, e => by
    cases x <;> (first | (simp [lstsOf] at e; done) | skip)
    rename_i y
    simp only [lstsOf, Option.map_eq_some_iff] at e
    obtain ⟨zs, e1, rfl⟩ := e
    obtain ⟨ys, l1, l2, _⟩ := RelDs.lsts hs e1
    cases h with
    | lst h n hv =>
      refine ⟨_ :: ys, .cons h l1, ?_, fun e => by cases e⟩
      rw [List.flatten_cons]
      exact hv.append l2
theorem cr_bi (hK : X.K = G.K) (hc : X.calm = true) : ∀ b : BI, CallR X b.fn (rBi G ex b) := by
  rintro b pins s σ H xs us Q I rv ⟨ρ, S, ws, z, R, rw', e, k⟩
  unfold biD at e
  split at e
  · next i =>
    cases e
    obtain ⟨v, rfl, r⟩ := rw'.one
    have q := r.d_inv.int_inv; subst q
    exact call_abs pins s σ H _ us Q I rv ⟨i, rfl, k _ H .refl R (.int _)⟩
  · next i =>
    cases e
    obtain ⟨v, rfl, r⟩ := rw'.one
    have q := r.d_inv.int_inv; subst q
    exact call_int1 pins s σ H _ us Q I rv (.inl ⟨i, rfl, k _ H .refl R (.int _)⟩)
  · next i =>
    cases e
    obtain ⟨v, rfl, r⟩ := rw'.one
    have q := r.d_inv.bl_inv; subst q
    exact call_int1 pins s σ H _ us Q I rv (.inr ⟨i, rfl, k _ H .refl R (.int _)⟩)
  · next t =>
    split at e
    · next hd =>
      cases e
      obtain ⟨v, rfl, r⟩ := rw'.one
      have q := r.d_inv.str_inv; subst q
      refine call_int_str pins s σ H _ us Q I rv ⟨Str' t, (decVal t : Int), rfl, ?_, by rw [str_len]; exact hd.2.1, k _ H .refl R (.int _)⟩
      rw [PySem.intText_digits (by show NumText.AllDigits t.toArray.toList; simpa using digits_of hd.2.2) (by show t.toArray.toList ≠ []; simpa using hd.1) (by rw [str_len]; omega)]
      show some ((NumText.digitsVal t.toArray.toList : Nat) : Int) = _
      simp only [List.toList_toArray]
      rfl
    · cases e
  · next i =>
    split at e
    · next hl =>
      cases e
      obtain ⟨v, rfl, r⟩ := rw'.one
      have q := r.d_inv.int_inv; subst q
      refine call_str_int pins s σ H _ us Q I rv ⟨i, rfl, hl, ?_⟩
      rw [decI_str]
      exact k _ H .refl R (.str _)
    · cases e
  · next t =>
    cases e
    obtain ⟨v, rfl, r⟩ := rw'.one
    have q := r.d_inv.str_inv; subst q
    exact SkE.call_str_str pins s σ H _ us Q I rv ⟨_, rfl, k _ H .refl R (.str _)⟩
  · next t =>
    split at e
    · next hl =>
      cases e
      obtain ⟨v, rfl, r⟩ := rw'.one
      have q := r.d_inv.str_inv; subst q
      refine call_len_str pins s σ H _ us Q I rv ⟨_, rfl, by rw [str_len]; exact hl, ?_⟩
      rw [str_len]
      exact k _ H .refl R (.int _)
    · cases e
  · next w _ =>
    simp only [Option.map_eq_some_iff] at e
    obtain ⟨⟨kd, xs⟩, e1, e2⟩ := e
    subst e2
    obtain ⟨v, rfl, r⟩ := rw'.one
    obtain ⟨p, vs, rfl, h1, r1⟩ := r.seqOf R e1
    refine call_len_seq pins s σ H _ us Q I rv ⟨p, vs, rfl, ?_, ?_⟩
    · rcases h1 with ⟨_, h1⟩ | ⟨_, h1⟩
      · exact .inr (hK ▸ h1)
      · exact .inl (hK ▸ h1)
    · rw [← r1.length]
      exact k _ H .refl R (.int _)
  · next w =>
    simp only [Option.map_eq_some_iff] at e
    obtain ⟨⟨kd, xs⟩, e1, e2⟩ := e
    subst e2
    obtain ⟨v, rfl, r⟩ := rw'.one
    obtain ⟨p, vs, rfl, h1, r1⟩ := r.seqOf R e1
    refine call_list_of pins s σ H _ us Q I rv ⟨p, vs, rfl, ?_, fun q hq => k _ _ (.newObj hq) (R.newObj hq) (.newLst R hq r1)⟩
    rcases h1 with ⟨_, h1⟩ | ⟨_, h1⟩
    · exact .inr (hK ▸ h1)
    · exact .inl (hK ▸ h1)
  · next w =>
    simp only [Option.map_eq_some_iff] at e
    obtain ⟨⟨kd, xs⟩, e1, e2⟩ := e
    subst e2
    obtain ⟨v, rfl, r⟩ := rw'.one
    obtain ⟨p, vs, rfl, h1, r1⟩ := r.seqOf R e1
    refine call_tuple_of pins s σ H _ us Q I rv ⟨p, vs, rfl, ?_⟩
    rcases h1 with ⟨_, h1⟩ | ⟨_, h1⟩
    · exact .inr ⟨hK ▸ h1, k _ H .refl R (.tup h1 r1)⟩
    · exact .inl ⟨hK ▸ h1, fun q hq => k _ _ (.newObj hq) (R.newObj hq) (.newTup R hq r1)⟩
  · next w =>
    simp only [Option.bind_eq_some_iff, Option.map_eq_some_iff] at e
    obtain ⟨xs, e1, kk, e2, e3⟩ := e
    subst e3
    obtain ⟨v, rfl, r⟩ := rw'.one
    obtain ⟨p, vs, rfl, h1, r1⟩ := r.lstOf R e1
    obtain ⟨bs, rfl, rfl⟩ := r1.bls e2
    exact cr_all hc pins s σ H _ us Q I rv ⟨p, bs, rfl, SqL.of h1, k _ H .refl R (.bl _)⟩
  · next w =>
    simp only [Option.bind_eq_some_iff, Option.map_eq_some_iff] at e
    obtain ⟨xs, e1, kk, e2, e3⟩ := e
    subst e3
    obtain ⟨v, rfl, r⟩ := rw'.one
    obtain ⟨p, vs, rfl, h1, r1⟩ := r.lstOf R e1
    obtain ⟨bs, rfl, rfl⟩ := r1.bls' e2
    exact cr_any hc pins s σ H _ us Q I rv ⟨p, bs, rfl, SqL.of h1, k _ H .refl R (.bl _)⟩
  · next w =>
    split at e
    · next xs e1 =>
      simp only [Option.map_eq_some_iff] at e
      obtain ⟨ns, e2, e3⟩ := e
      subst e3
      obtain ⟨v, rfl, r⟩ := rw'.one
      obtain ⟨p, vs, rfl, h1, r1⟩ := r.seqOf R e1
      rcases h1 with ⟨h0, _⟩ | ⟨_, h1⟩
      · cases h0
      · have q := r1.ints_of e2; subst q
        exact cr_sum hc pins s σ H _ us Q I rv ⟨p, ns, rfl, hK ▸ h1, k _ H .refl R (.int _)⟩
    · cases e
  · next w =>
    split at e
    · next xs e1 =>
      simp only [Option.bind_eq_some_iff] at e
      obtain ⟨zs, e2, e3⟩ := e
      split at e3
      · next hl =>
        cases e3
        cases rw' with
        | cons r rt =>
          cases rt with
          | cons r2 rt2 =>
            cases rt2
            obtain ⟨p, vs, rfl, h1, r1⟩ := r.seqOf R e1
            rcases h1 with ⟨h0, _⟩ | ⟨_, h1⟩
            · cases h0
            · obtain ⟨q, us2, rfl, h2, n2, r3⟩ := r2.d_inv.lst_inv
              cases r3
              obtain ⟨ys, l1, l2, l3⟩ := RelDs.lsts r1 e2
              refine cr_sumL hc pins s σ H _ us Q I rv ⟨p, q, vs, ys, rfl, hK ▸ h1, l1, .inl (.inl h2), by rw [← l2.length]; exact hl, fun e0 => ?_, fun _ p hp => ?_⟩
              · have := l3 e0
                subst this
                exact k _ H .refl R r2.d_inv
              · exact k _ _ (.newObj hp) (R.newObj hp) (.newLst R hp l2)
      · cases e3
    · cases e
  · cases e

/-! ### methods of built-in types -/
def rBm (G : Wd) (ex : Ex) (m : BM) : V → List V → Hp → VK → Prop := fun x xs H Q => ∃ ρ S o ws w S', RelS G ρ S H ∧ RelW G ex (Live ρ S) ρ H o x ∧ RelWs G ex (Live ρ S) ρ H ws xs ∧ bmD m o ws S = .ok w S' ∧
  ∀ v H', Ext ρ S H ρ S' H' → RelS G ρ S' H' → RelW G ex (Live ρ S') ρ H' w v → Q v H'
theorem splitL_ne (c : Nat) : ∀ l, splitL c l ≠ []
  | [] => by simp [splitL]
  | x :: r => by
    simp only [splitL]
    split
    · simp
    · split <;> simp
theorem spl_splitL (c : Nat) : ∀ (l acc : List Nat), TL.spl [c] 0 acc l = match splitL c l with
    | [] => []
    | p :: ps => (acc ++ p) :: ps
  | [], acc => by simp [TL.spl, splitL]
  | x :: r, acc => by
    by_cases h : x = c
    · subst h
      rw [TL.spl_hit (by simp [TL.pre])]
      have ih := spl_splitL x r []
      simp only [splitL, if_true]
      show acc :: TL.spl [x] 0 [] r = _
      rw [ih]
      cases e : splitL x r with
      | nil => exact absurd e (splitL_ne x r)
      | cons p ps => simp
    · rw [TL.spl_miss (by simp [TL.pre]; exact h)]
      rw [spl_splitL c r (acc ++ [x])]
      simp only [splitL, if_neg h]
      cases e : splitL c r with
      | nil => exact absurd e (splitL_ne c r)
      | cons p ps => simp
theorem split_eq {c : Nat} {t : List Nat} (hc : c < 256) : Txt.split (Str' t) (Str' [c]) = (splitL c t).map Str' := by
  apply TL.map_tl_inj
  rw [TL.split_spl (Str' t) (Str' [c]) (by show ([c].toArray.toList ≠ []); simp) (TL.kind_ok (by show ([c].toArray.all _ = true); simp; exact hc))]
  have e1 : TL.tl (Str' [c]) = [c] := by show [c].toArray.toList = _; simp
  have e2 : TL.tl (Str' t) = t := by show t.toArray.toList = _; simp
  rw [e1, e2, spl_splitL c t []]
  rw [List.map_map]
  cases e : splitL c t with
  | nil => exact absurd e (splitL_ne c t)
  | cons p ps =>
    simp only [List.nil_append]
    have : ∀ l : List (List Nat), l.map (TL.tl ∘ Str') = l := fun l => by
      induction l with
      | nil => rfl
      | cons a l ih => rw [List.map_cons, ih]; rfl
    rw [this]
theorem joinL_eq (sep : List Nat) : ∀ ts : List (List Nat), TL.joinL sep ts = joinL sep ts
  | [] => rfl
  | [x] => rfl
  | x :: y :: r => by
    simp only [TL.joinL, joinL]
    rw [joinL_eq sep (y :: r), List.append_assoc]
theorem join_eq' (sep : List Nat) (ts : List (List Nat)) : Txt.join (Str' sep) (ts.map Str') = Str' (joinL sep ts) := by
  apply TL.ext_tl
  rw [TL.join_eq, TL.tl_join]
  have e1 : TL.tl (Str' sep) = sep := by show sep.toArray.toList = _; simp
  have e2 : ∀ l : List (List Nat), (l.map Str').map TL.tl = l := fun l => by
    induction l with
    | nil => rfl
    | cons a l ih => rw [List.map_cons, List.map_cons, ih]
  rw [e1, e2, joinL_eq]
theorem sumLen (ts : List (List Nat)) : ((ts.map Str').map (·.length)).sum = (ts.map List.length).sum := by
  rw [List.map_map]
  rfl
theorem mt_bm (hK : X.K = G.K) : ∀ m : BM, (m = .append → MtR X "list.append" (rBm G ex .append)) ∧ (m = .extend → MtR X "list.extend" (rBm G ex .extend)) ∧ (m = .pop → MtR X "list.pop" (rBm G ex .pop)) ∧
    (m = .join → MtR X "str.join" (rBm G ex .join)) ∧ (m = .split → MtR X "str.split" (rBm G ex .split)) := by
  intro m
  refine ⟨fun _ => ?_, fun _ => ?_, fun _ => ?_, fun _ => ?_, fun _ => ?_⟩
  · rintro pins s σ H x xs v us Q I rx rv ⟨ρ, S, o, ws, w, S', R, ro, rw', e, k⟩
    unfold bmD at e
    split at e <;> try (first | cases e | contradiction)
    next l w0 hm =>
    split at e
    · next ys e1 =>
      obtain ⟨y, rfl, r⟩ := rw'.one
      rcases toD_cases w0 S with ⟨z, S1, ez⟩ | ez
      · rw [ez] at e
        simp only [Res.bind_ok] at e
        obtain ⟨E1, R1, r1⟩ := toD_ok R r ez
        split at e
        · next ys1 e2 =>
          split at e
          · next hl =>
            cases e
            cases ro with
            | loc ha =>
              have hc := R1.cell l _ _ e2 ha
              cases hc with
              | lst h1 h2 =>
                rename_i vs0
                refine mt_append pins s σ H _ _ v us Q I rx rv ⟨_, _, y, rfl, rfl, h1, by rw [← h2.length]; exact hl, ?_⟩
                have ec := Ext.setCell (c' := .lst (ys1 ++ [z])) (o := .lst (vs0 ++ [y])) R1 e2 rfl ha
                refine k _ _ (E1.trans ec) (R1.setCell e2 rfl ha (.lst upd_same ?_)) (.d .non)
                exact (h2.mono ec.kp).append (.cons (r1.mono ec.kp) .nil)
          · cases e
        · cases e
      · rw [ez] at e; cases e
    · cases e
  · rintro pins s σ H x xs v us Q I rx rv ⟨ρ, S, o, ws, w, S', R, ro, rw', e, k⟩
    unfold bmD at e
    split at e <;> try (first | cases e | contradiction)
    next l w0 hm =>
    split at e
    · next ys zs e1 e2 =>
      split at e
      · next hl =>
        cases e
        obtain ⟨y, rfl, r⟩ := rw'.one
        obtain ⟨b, zv, rfl, hb, rz⟩ := r.lstOf R e2
        cases ro with
        | loc ha =>
          cases R.cell l _ _ e1 ha with
          | lst h1 h2 =>
            rename_i vs0
            refine mt_extend pins s σ H _ _ v us Q I rx rv ⟨_, b, _, zv, rfl, rfl, h1, hb, by rw [← h2.length, ← rz.length]; exact hl.1, ?_⟩
            have ec := Ext.setCell (c' := .lst (ys ++ zs)) (o := .lst (vs0 ++ zv)) R e1 rfl ha
            exact k _ _ ec (R.setCell e1 rfl ha (.lst upd_same ((h2.mono ec.kp).append (rz.mono ec.kp)))) (.d .non)
      · cases e
    · cases e
  · rintro pins s σ H x xs v us Q I rx rv ⟨ρ, S, o, ws, w, S', R, ro, rw', e, k⟩
    unfold bmD at e
    split at e <;> try (first | cases e | contradiction)
    next l i hm =>
    split at e
    · next ys e1 =>
      split at e
      · next j e2 =>
        split at e
        · next z e3 =>
          cases e
          obtain ⟨y, rfl, r⟩ := rw'.one
          have q := r.d_inv.int_inv; subst q
          cases ro with
          | loc ha =>
            cases R.cell l _ _ e1 ha with
            | lst h1 h2 =>
              rename_i vs0
              obtain ⟨zv, e4, rz⟩ := h2.get e3
              obtain ⟨g1, g2, g3, g4⟩ := ixN_seq e2
              have hs : (ys.length : Int) ≤ 2 ^ 24 := by
                have := (I.hok _ _ h1).1
                rw [← h2.length] at this
                have e5 : sizeLine = 2 ^ 24 := rfl
                omega
              refine mt_popAt pins s σ H _ _ v us Q I rx rv ⟨_, _, i, j, zv, rfl, rfl, h1, by omega, by omega, by rw [← h2.length]; exact g1, e4, ?_⟩
              have ec := Ext.setCell (c' := .lst (ys.eraseIdx j)) (o := .lst (List.eraseIdx vs0 j)) R e1 rfl ha
              exact k _ _ ec (R.setCell e1 rfl ha (.lst upd_same ((h2.mono ec.kp).erase _))) (.d (rz.mono ec.kp))
        · cases e
      · cases e
    · cases e
  · rintro pins s σ H x xs v us Q I rx rv ⟨ρ, S, o, ws, w, S', R, ro, rw', e, k⟩
    unfold bmD at e
    split at e <;> try (first | cases e | contradiction)
    next t w0 hm =>
    split at e
    · next ts e1 =>
      split at e
      · next hl =>
        cases e
        obtain ⟨y, rfl, r⟩ := rw'.one
        have q := ro.d_inv.str_inv; subst q
        simp only [Option.bind_eq_some_iff] at e1
        obtain ⟨⟨kd, xs⟩, e1, e2⟩ := e1
        obtain ⟨p, vs, rfl, h1, r1⟩ := r.seqOf R e1
        have q := r1.strs_of e2; subst q
        refine mt_join pins s σ H _ _ v us Q I rx rv ⟨Str' t, p, ts.map Str', rfl, rfl, ?_, ?_, ?_⟩
        · rcases h1 with ⟨_, h1⟩ | ⟨_, h1⟩
          · exact .inr (hK ▸ h1)
          · exact .inl (hK ▸ h1)
        · rw [sumLen, List.length_map, str_len]; exact hl
        · rw [join_eq']
          exact k _ H .refl R (.d (.str _))
      · cases e
    · cases e
  · rintro pins s σ H x xs v us Q I rx rv ⟨ρ, S, o, ws, w, S', R, ro, rw', e, k⟩
    unfold bmD at e
    split at e <;> try (first | cases e | contradiction)
    next t c hm =>
    split at e
    · next hl =>
      cases e
      obtain ⟨y, rfl, r⟩ := rw'.one
      have q := ro.d_inv.str_inv; subst q
      have q := r.d_inv.str_inv; subst q
      refine mt_split pins s σ H _ _ v us Q I rx rv ⟨Str' t, Str' [c], rfl, rfl, by rw [str_len]; rfl, by rw [str_len]; exact hl.1, fun p hp => ?_⟩
      rw [split_eq hl.2]
      exact k _ _ (.newObj hp) (R.newObj hp) (.d (.newLst R hp (RelDs.of_strs _)))
    · cases e
end
end RI
/-! RI7: enumerate and zip over lists and tuples alike. -/
namespace RI
open PySem PySem.Spec PyProof.Rows L2

/-- a sequence to be read, by its kind -/
def Sq (k : SK) (K : PySem.W.Frag) (H : Hp) (a : Addr) (vs : List V) : Prop := match k with
  | .tup => SqT K H a vs
  | .lst => SqL K H a vs
/-- its iterator -/
def ItAt (k : SK) (h : Heap) (it a : Addr) (i : Nat) : Prop := match k with
  | .tup => h.IsTupleIter it a i
  | .lst => h.IsListIter it a i
def Holds (k : SK) (h : Heap) (a : Addr) (its : List Value) : Prop := match k with
  | .tup => h.IsTuple a its.toArray
  | .lst => h.IsList a its.toArray
def itObj (k : SK) (a : Addr) : Obj := match k with
  | .tup => { cls := .type "tuple_iterator", data := .fields #[.ref a, .int 0 0] }
  | .lst => { cls := .type "list_iterator", data := .fields #[.ref a, .int 0 0] }
section
variable {X : Cx} {pins : List (Addr × Obj)} {σ : St} {H : Hp} {s : Shared} {k : SK} {a it : Addr} {vs : List V}
theorem Inv.sq (I : L2.Inv X pins σ H s) (h : Sq k X.K H a vs) : ∃ its : List Value, Vals vs its ∧ Holds k s.heap a its := by
  cases k with
  | tup =>
    obtain ⟨its, r, p, _⟩ := L2.Inv.tuple I h
    exact ⟨its, r, p⟩
  | lst =>
    obtain ⟨its, r, p, _⟩ := L2.Inv.list I h
    exact ⟨its, r, p.isList⟩
theorem Inv.sq_inj (I : L2.Inv X pins σ H s) {us : List V} (h : Sq k X.K H a vs) (h' : Sq k X.K H a us) : vs = us := by
  cases k with
  | tup => exact L2.Inv.tuple_inj I h h'
  | lst => exact L2.Inv.list_inj I h h'
theorem begins (k : SK) (a : Addr) (its : List Value) : Begins (.ref a) (itObj k a) (fun h => Holds k h a its) := by
  cases k with
  | tup => exact begins_tuple a its.toArray
  | lst => exact begins_list a its.toArray
theorem draws {prog : Program} {w : World} {A : Around} (hh : A.handled = none) (k : SK) (it a : Addr) (hne : a ≠ it) (its : List Value) :
    Draws prog w A it [it, a] its.length (fun i v => its[i]? = some v) (fun i h => ItAt k h it a i ∧ Holds k h a its) := by
  cases k with
  | tup =>
    have t := Draws.tuple (prog := prog) (w := w) hh it a hne its.toArray
    simp only [List.size_toArray, List.getElem?_toArray] at t
    exact t
  | lst =>
    have t := Draws.list (prog := prog) (w := w) hh it a hne its.toArray
    simp only [List.size_toArray, List.getElem?_toArray] at t
    exact t
theorem itAt_obj {h : Heap} {i : Nat} (st : ItAt k h it a i) : ∃ o, h.get? it = some o ∧ ∀ v, o.data ≠ .cell v := by
  cases k with
  | tup => obtain ⟨o, ho, hc, hd⟩ := st; exact ⟨o, ho, fun v q => by rw [hd] at q; cases q⟩
  | lst => obtain ⟨o, ho, hc, hd⟩ := st; exact ⟨o, ho, fun v q => by rw [hd] at q; cases q⟩
theorem itAt_at {h h' : Heap} {i : Nat} (st : ItAt k h it a i) (e : ∀ o, h.get? it = some o → h'.get? it = some o) : ItAt k h' it a i := by
  cases k with
  | tup => exact Heap.IsTupleIter.at st e
  | lst => exact Heap.IsListIter.at st e
theorem itAt_new {h : Heap} (e : h.get? it = some (itObj k a)) : ItAt k h it a 0 := by
  cases k with
  | tup => exact ⟨_, e, rfl, rfl⟩
  | lst => exact ⟨_, e, rfl, rfl⟩
theorem itAt_ne {h : Heap} {i : Nat} {its : List Value} (st : ItAt k h it a i) (hs : Holds k h a its) : a ≠ it := by
  intro e
  subst e
  cases k with
  | tup =>
    obtain ⟨o, ho, hc, hd⟩ := st
    obtain ⟨o', ho', _, _, hd'⟩ := hs
    rw [ho] at ho'; cases ho'; rw [hd] at hd'; cases hd'
  | lst =>
    obtain ⟨o, ho, hc, hd⟩ := st
    obtain ⟨o', ho', _, _, hd'⟩ := hs
    rw [ho] at ho'; cases ho'; rw [hd] at hd'; cases hd'
end
set_option maxHeartbeats 4000000 in
theorem meets_enum1 {v : Value} {o : Obj} {H : Heap → Prop} (B : Begins v o H) :
    Meets (Builtin.«enumerate.__new__» ⟨[.type "enumerate", v], []⟩) (fun _ R s => H s.heap ∧
      R (.ok (.ret (.ref (s.heap.push o).objs.size))) { s with heap := (s.heap.push o).push { cls := .type "enumerate", data := .fields #[.none, .bool false, .ref s.heap.objs.size, rawInt 0, .none, .none] } }) :=
  .of_wp fun prog w A R s h => by
    obtain ⟨hp, g, d, tk, os⟩ := s; obtain ⟨h1, h⟩ := h
    have hsub := sub_enumerate
    have q1 : ∀ {A' : Around} {E : Value → Shared → Prop} {Q : Value → Shared → Prop}, Q (.ref hp.objs.size) ⟨hp.push o, g, d, tk, os⟩ → wpAny (model prog w) A' (pyIter v) Q E ⟨hp, g, d, tk, os⟩ :=
      fun q => B.iter prog w _ _ ⟨hp, g, d, tk, os⟩ _ h1 q
    wp_walk using q1
    refine wpAny_stack_any fun st => wpAny_pure ?_
    split
    · rename_i c _ _ _ _ _
      cases (c == Value.type "enumerate")
      · wp_walk using q1
        exact ⟨_, rfl, h⟩
      · wp_walk using q1
        exact ⟨_, rfl, h⟩
    · wp_walk using q1
      exact ⟨_, rfl, h⟩
theorem enum1_begins {prog : Program} {w : World} {A : Around} {E : Value → Shared → Prop} {s : Shared} {v : Value} {o : Obj} {H : Heap → Prop} {Q : Value → Shared → Prop} (B : Begins v o H) (h1 : H s.heap)
    (h : ∀ h', IsEnum h' (s.heap.objs.size + 1) s.heap.objs.size 0 .none → h'.get? s.heap.objs.size = some o → h'.objs.size = s.heap.objs.size + 2 →
      (∀ b o, s.heap.get? b = some o → h'.get? b = some o) → Q (.ref (s.heap.objs.size + 1)) { s with heap := h' }) :
    wpAny (model prog w) A (call (.type "enumerate") [v]) Q E s := by
  refine callType_new F.called_enumerate (by decide) (F.typeCall_enumerate_1 _) (F.newCall_enumerate_1 _) (fun obj => F.args_object_init_2 obj _) F.entry_enumerate_new
    (meets_enum1 B) ⟨h1, ?_⟩
  have hz : (s.heap.push o).objs.size = s.heap.objs.size + 1 := Heap.size_push ..
  show _ ∧ _
  rw [hz]
  have he : IsEnum ((s.heap.push o).push { cls := .type "enumerate", data := .fields #[.none, .bool false, .ref s.heap.objs.size, rawInt 0, .none, .none] }) (s.heap.objs.size + 1) s.heap.objs.size 0 .none := by
    have := Heap.get?_push_size (s.heap.push o) (o := { cls := .type "enumerate", data := .fields #[.none, .bool false, .ref s.heap.objs.size, rawInt 0, .none, .none] }) rfl
    rw [hz] at this; exact this
  exact ⟨⟨_, he, rfl⟩, h _ he (Heap.get?_push_of_some _ (Heap.get?_push_size _ B.free)) (by rw [Heap.size_push, hz]) fun b o x => Heap.get?_push_of_some _ (Heap.get?_push_of_some _ x)⟩

/-- (0, x), (1, y), .. -/
def ItE (k : SK) (K : PySem.W.Frag) (a : Addr) (vs : List V) : It :=
  ⟨fun i H => Sq k K H a vs ∧ i < vs.length, fun i H v H' => ∃ T x, v = .ref T ∧ H T = none ∧ H' = upd H T (.tup [.int (i : Nat), x]) ∧ vs[i]? = some x, fun i H => Sq k K H a vs ∧ vs.length = i⟩
theorem turn_en {P : Program} {w : World} {K : PySem.W.Frag} {elts : List Expr} {kk : Nat} {tpos : Pos} (k : SK) (a e it : Addr) (vs : List V) :
    Turn P w K (.Tuple elts kk tpos) (ItE k K a vs) [e, it] e (fun i h => (∃ old, IsEnum h e it ((i : Nat) : Int) old) ∧ ItAt k h it a i ∧ e ≠ it ∧ e ≠ a) where
  mem := by simp
  obj := fun i h st b hb => by
    obtain ⟨⟨old, he⟩, hi, _⟩ := st
    have e' : b = e ∨ b = it := by simpa using hb
    rcases e' with z | z
    · rw [z]; exact ⟨_, he, fun v q => nomatch q⟩
    · rw [z]; exact itAt_obj hi
  keep := fun i h h' st kp => let ⟨⟨old, he⟩, hi, hne, hna⟩ := st; ⟨⟨old, kp e (by simp) _ he⟩, itAt_at hi fun o q => kp it (by simp) o q, hne, hna⟩
  item := by
    intro X hP hw hK hc i pins s σ H E I hf st hg
    subst hP hw hK
    obtain ⟨⟨old, he⟩, hit, hne, hna⟩ := st
    obtain ⟨hq, hlt⟩ := hg
    obtain ⟨its, rv, p⟩ := Inv.sq I hq
    have hh : X.A.in1.handled = none := I.ok.hd hc
    have D := draws (prog := X.prog) (w := X.w) hh k it a (itAt_ne hit p) its
    have hel : e < s.heap.objs.size := Heap.lt_size he
    have hil : it < s.heap.objs.size := by obtain ⟨_, q, _⟩ := itAt_obj hit; exact Heap.lt_size q
    refine wpAny_pyNext_enum_itemC D he ⟨hit, p⟩ (by rw [← rv.length]; exact hlt) hne (by simp [hne, hna]) fun u h' tk hu ho st' hT hsz hk => ?_
    obtain ⟨x, hx, ru⟩ : ∃ x, vs[i]? = some x ∧ RelV x u := by
      obtain ⟨x, hx⟩ : ∃ x, vs[i]? = some x := ⟨_, List.getElem?_eq_getElem hlt⟩
      obtain ⟨u', hu', r'⟩ := rv.get hx
      rw [hu] at hu'; cases hu'
      exact ⟨x, hx, r'⟩
    refine ⟨_, rfl, wpAny_letOwnedTupleGo_enum (s := { s with heap := h', toks := tk + 1 }) ho fun h'' he' sb => ?_⟩
    have hT2 : h''.get? s.heap.objs.size = some { cls := .type "tuple", data := .seq #[.int i tk, u] } := (sb.2 _ (Nat.ne_of_gt hel)).trans hT
    have new : ObjOk X.prog X.w (upd H s.heap.objs.size (.tup [.int (i : Nat), x])) h'' s.heap.objs.size (.tup [.int (i : Nat), x]) :=
      ⟨by show 2 ≤ sizeLine; decide, [.int i tk, u], .cons ⟨_, rfl⟩ (.cons ru .nil), ⟨_, hT2, rfl, _, rfl⟩⟩
    have I1 : L2.Inv X pins σ (upd H s.heap.objs.size (.tup [.int (i : Nat), x])) { s with heap := h'', toks := tk + 1 } :=
      I.turnedNew (ch := [e, it]) (fun b ob hb q => (sb.2 b (fun z => hb (by simp [z]))).trans (hk b ob (fun z => hb (by simp [z])) (fun z => hb (by simp [z])) q)) hf (Nat.le_refl _) new
    refine ⟨.ref s.heap.objs.size, _, I1, rfl, ⟨_, x, rfl, I.hok.fresh (Nat.le_refl _), rfl, hx⟩, ⟨⟨u, ?_⟩, itAt_at st'.1 fun o q => (sb.2 it (Ne.symm hne)).trans q, hne, hna⟩, fun b hb => ?_⟩
    · have e1 : ((i + 1 : Nat) : Int) = (i : Int) + 1 := by omega
      rw [e1]; exact he'
    · have hb' : b < s.heap.objs.size := by
        have e' : b = e ∨ b = it := by simpa using hb
        rcases e' with z | z
        · rw [z]; exact hel
        · rw [z]; exact hil
      rw [upd_ne (Nat.ne_of_lt hb')]
      exact (hf b hb).1
  done := by
    intro X hP hw hK hc i pins s σ H E I hf st hg
    subst hP hw hK
    obtain ⟨⟨old, he⟩, hit, hne, hna⟩ := st
    obtain ⟨hq, hx⟩ := hg
    obtain ⟨its, rv, p⟩ := Inv.sq I hq
    have hh : X.A.in1.handled = none := I.ok.hd hc
    have D := draws (prog := X.prog) (w := X.w) hh k it a (itAt_ne hit p) its
    obtain ⟨f0, f1, f2, f3, f4, f5⟩ := hf it (by simp)
    have hl := rv.length
    have e1 : its.length = i := by omega
    exact wpAny_pyNext_enum_endD D he (by rw [e1]; exact ⟨hit, p⟩) fun h' eb => ⟨rfl, I.turned (t' := s.toks) (fun b o hb q => eb b o hb q) f0 f1 f3 f4 f5⟩
  self := fun A i s Q E st h => let ⟨⟨_, he⟩, _⟩ := st; wpAny_pyIter_enum he h
def iEn (K : PySem.W.Frag) (ta : TA) : TI := fun σ H R => ta σ H fun ws H1 => ∃ k a vs, ws = [.ref a] ∧ Sq k K H1 a vs ∧ R (ItE k K a vs) H1
theorem pi_en {X : Cx} {e : Expr} {ta : TA} {p pos tpos : Pos} {elts : List Expr} {kk : Nat} (hg : Gl X "enumerate") (hm : X.mg "enumerate" = none) (ha : PA X [e] ta) (hs : starEach [e] X.env = [(false, eval e X.env)]) :
    PI X (.Tuple elts kk tpos) (.Call (.Name "enumerate" p) [e] [] pos) (iEn X.K ta) := by
  refine ⟨fun pins s σ H R I h => ?_⟩
  refine Call_ (ld_blt I hg hm boot_enumerate (PyProof.Rows.callWith_type1 (thn (ha.run pos pins s σ H _ I h) fun us s1 ⟨ws, H1, I1, r1, q1⟩ => ?_) hs rfl))
  obtain ⟨k, a, vs, ex, hq, q⟩ := q1
  subst ex
  cases r1 with
  | cons r rr =>
    cases rr
    cases r
    obtain ⟨its, rv, p'⟩ := Inv.sq I1 hq
    refine enum1_begins (begins k a its) p' fun h' he hit hsz hk => wpAny_pyIter_enum he ?_
    have I2 : L2.Inv X pins σ H1 { s1 with heap := h' } := I1.kept (t' := s1.toks) hk
    have ha' : a < s1.heap.objs.size := by
      cases k with
      | tup => obtain ⟨_, q, _⟩ := p'; exact Heap.lt_size q
      | lst => obtain ⟨_, q, _⟩ := p'; exact Heap.lt_size q
    refine ⟨s1.heap.objs.size + 1, [s1.heap.objs.size + 1, s1.heap.objs.size], _, _, H1, rfl, I2, turn_en k a (s1.heap.objs.size + 1) s1.heap.objs.size vs, ⟨⟨.none, he⟩, itAt_new hit, Nat.succ_ne_self _, fun z => absurd ha' (by rw [← z]; exact Nat.not_lt.mpr (Nat.le_succ _))⟩, fun b hb => ?_, q⟩
    have e' : b = s1.heap.objs.size + 1 ∨ b = s1.heap.objs.size := by simpa using hb
    have hle : s1.heap.objs.size ≤ b := by
      rcases e' with z | z
      · rw [z]; exact Nat.le_add_right _ _
      · rw [z]; exact Nat.le_refl _
    exact I1.fpOk hle (I1.hok.fresh hle)

/-- (x, y) of two sequences -/
def ItZ (k1 k2 : SK) (K : PySem.W.Frag) (a b : Addr) (xs ys : List V) : It :=
  ⟨fun i H => Sq k1 K H a xs ∧ Sq k2 K H b ys ∧ i < xs.length ∧ i < ys.length, fun i H v H' => ∃ T x y, v = .ref T ∧ H T = none ∧ H' = upd H T (.tup [x, y]) ∧ xs[i]? = some x ∧ ys[i]? = some y,
    fun i H => Sq k1 K H a xs ∧ Sq k2 K H b ys ∧ i ≤ xs.length ∧ i ≤ ys.length ∧ (i = xs.length ∨ i = ys.length)⟩
theorem turn_z {P : Program} {w : World} {K : PySem.W.Frag} {elts : List Expr} {kk : Nat} {tpos : Pos} (k1 k2 : SK) {a b z TI TO i1 i2 : Addr} (xs ys : List V) (D : ZipSep2 z TI TO i1 i2 [i1, a] [i2, b]) :
    Turn P w K (.Tuple elts kk tpos) (ItZ k1 k2 K a b xs ys) [z, TI, TO, i1, i2] z (fun i h => IsZip h z TI TO .none ∧ IsTupOf2 h TI (.ref i1) (.ref i2) ∧ (∃ x y, IsTupOf2 h TO x y) ∧ ItAt k1 h i1 a i ∧ ItAt k2 h i2 b i) where
  mem := by simp
  obj := fun i h st c hc => by
    obtain ⟨hz, hTI, ⟨x, y, hTO⟩, h1, h2⟩ := st
    have e' : c = z ∨ c = TI ∨ c = TO ∨ c = i1 ∨ c = i2 := by simpa using hc
    rcases e' with q | q | q | q | q
    · rw [q]; exact ⟨_, hz, fun v q => nomatch q⟩
    · rw [q]; exact ⟨_, hTI, fun v q => nomatch q⟩
    · rw [q]; exact ⟨_, hTO, fun v q => nomatch q⟩
    · rw [q]; exact itAt_obj h1
    · rw [q]; exact itAt_obj h2
  keep := fun i h h' st k => by
    obtain ⟨hz, hTI, ⟨x, y, hTO⟩, h1, h2⟩ := st
    exact ⟨k z (by simp) _ hz, k TI (by simp) _ hTI, ⟨x, y, k TO (by simp) _ hTO⟩, itAt_at h1 fun o q => k i1 (by simp) o q, itAt_at h2 fun o q => k i2 (by simp) o q⟩
  item := by
    intro X hP hw hK hc i pins s σ H E I hf st hg
    subst hP hw hK
    obtain ⟨hz, hTI, ⟨x0, y0, hTO⟩, h1, h2⟩ := st
    obtain ⟨hqx, hqy, hlx, hly⟩ := hg
    obtain ⟨its, rv, p⟩ := Inv.sq I hqx
    obtain ⟨its2, rv2, p2⟩ := Inv.sq I hqy
    have hh : X.A.in1.handled = none := I.ok.hd hc
    have D1 := draws (prog := X.prog) (w := X.w) hh k1 i1 a (itAt_ne h1 p) its
    have D2 := draws (prog := X.prog) (w := X.w) hh k2 i2 b (itAt_ne h2 p2) its2
    have hzl : z < s.heap.objs.size := Heap.lt_size hz
    refine wpAny_pyNext_zipD2_item D D1 D2 hz hTI hTO ⟨h1, p⟩ ⟨h2, p2⟩ (by rw [← rv.length]; exact hlx) (by rw [← rv2.length]; exact hly) fun u u2 h' tk hu hu2 z' TO' st1 st2 hT hsz hk => ?_
    obtain ⟨x, hx, ru⟩ : ∃ x, xs[i]? = some x ∧ RelV x u := by
      obtain ⟨u', hu', r'⟩ := rv.get (List.getElem?_eq_getElem hlx)
      rw [hu] at hu'; cases hu'
      exact ⟨_, List.getElem?_eq_getElem hlx, r'⟩
    obtain ⟨y, hy, ru2⟩ : ∃ y, ys[i]? = some y ∧ RelV y u2 := by
      obtain ⟨u', hu', r'⟩ := rv2.get (List.getElem?_eq_getElem hly)
      rw [hu2] at hu'; cases hu'
      exact ⟨_, List.getElem?_eq_getElem hly, r'⟩
    refine ⟨_, rfl, wpAny_letOwnedTupleGo_zip (s := { s with heap := h', toks := tk }) z' fun h'' z'' sb => ?_⟩
    have hT2 : h''.get? s.heap.objs.size = some { cls := .type "tuple", data := .seq #[u, u2] } := (sb.2 _ (Nat.ne_of_gt hzl)).trans hT
    have new : ObjOk X.prog X.w (upd H s.heap.objs.size (.tup [x, y])) h'' s.heap.objs.size (.tup [x, y]) :=
      ⟨by show 2 ≤ sizeLine; decide, [u, u2], .cons ru (.cons ru2 .nil), ⟨_, hT2, rfl, _, rfl⟩⟩
    have I1 : L2.Inv X pins σ (upd H s.heap.objs.size (.tup [x, y])) { s with heap := h'', toks := tk } :=
      I.turnedNew (ch := [z, TI, TO, i1, i2]) (fun c o hb q => (sb.2 c (fun q' => hb (by simp [q']))).trans (hk c o (fun q' => hb (by simp [q'])) (fun q' => hb (by simp [q'])) (fun q' => hb (by simp [q'])) (fun q' => hb (by simp [q'])) q)) hf (Nat.le_refl _) new
    have i1z : i1 ≠ z := fun e => D.zf1 (by rw [← e]; simp)
    have i2z : i2 ≠ z := fun e => D.zf2 (by rw [← e]; simp)
    refine ⟨.ref s.heap.objs.size, _, I1, rfl, ⟨_, x, y, rfl, I.hok.fresh (Nat.le_refl _), rfl, hx, hy⟩, ⟨z'', ?_, ⟨u, u2, ?_⟩, ?_, ?_⟩, fun c hcm => ?_⟩
    · exact (sb.2 _ D.TIz).trans (hk _ _ D.TIz D.TITO D.TIi1 D.TIi2 hTI)
    · exact (sb.2 _ D.TOz).trans TO'
    · exact itAt_at st1.1 fun o q => (sb.2 _ i1z).trans q
    · exact itAt_at st2.1 fun o q => (sb.2 _ i2z).trans q
    · have hlt : c < s.heap.objs.size := by
        have e' : c = z ∨ c = TI ∨ c = TO ∨ c = i1 ∨ c = i2 := by simpa using hcm
        rcases e' with q | q | q | q | q
        · rw [q]; exact hzl
        · rw [q]; exact Heap.lt_size hTI
        · rw [q]; exact Heap.lt_size hTO
        · rw [q]; obtain ⟨_, e1, _⟩ := itAt_obj h1; exact Heap.lt_size e1
        · rw [q]; obtain ⟨_, e2, _⟩ := itAt_obj h2; exact Heap.lt_size e2
      rw [upd_ne (Nat.ne_of_lt hlt)]
      exact (hf c hcm).1
  done := by
    intro X hP hw hK hc i pins s σ H E I hf st hg
    subst hP hw hK
    obtain ⟨hz, hTI, ⟨x0, y0, hTO⟩, h1, h2⟩ := st
    obtain ⟨hqx, hqy, hlx, hly, hend⟩ := hg
    obtain ⟨its, rv, p⟩ := Inv.sq I hqx
    obtain ⟨its2, rv2, p2⟩ := Inv.sq I hqy
    have l1 := rv.length
    have l2 := rv2.length
    have hh : X.A.in1.handled = none := I.ok.hd hc
    have D1 := draws (prog := X.prog) (w := X.w) hh k1 i1 a (itAt_ne h1 p) its
    have D2 := draws (prog := X.prog) (w := X.w) hh k2 i2 b (itAt_ne h2 p2) its2
    exact wpAny_pyNext_zipD2_end D D1 D2 hz hTI hTO ⟨h1, p⟩ ⟨h2, p2⟩ (by omega) (by omega) (by omega) fun h' tk hk => ⟨rfl, I.turnedL (t' := tk) (ch := [z, TI, TO, i1, i2]) (fun c o hb q =>
      hk c o (fun q' => hb (by simp [q'])) (fun q' => hb (by simp [q'])) (fun q' => hb (by simp [q'])) (fun q' => hb (by simp [q'])) q) hf⟩
  self := fun A i s Q E st h => wpAny_pyIter_zip st.1 h
def iZp (K : PySem.W.Frag) (ta : TA) : TI := fun σ H R => ta σ H fun ws H1 => ∃ k1 k2 a b xs ys, ws = [.ref a, .ref b] ∧ Sq k1 K H1 a xs ∧ Sq k2 K H1 b ys ∧ R (ItZ k1 k2 K a b xs ys) H1
theorem holds_lt {k : SK} {h : Heap} {a : Addr} {its : List Value} (p : Holds k h a its) : a < h.objs.size := by
  cases k with
  | tup => obtain ⟨_, q, _⟩ := p; exact Heap.lt_size q
  | lst => obtain ⟨_, q, _⟩ := p; exact Heap.lt_size q
theorem pi_zp {X : Cx} {e e2 : Expr} {ta : TA} {p pos tpos : Pos} {elts : List Expr} {kk : Nat} (hg : Gl X "zip") (hm : X.mg "zip" = none) (ha : PA X [e, e2] ta)
    (hs : starEach [e, e2] X.env = (false, eval e X.env) :: starEach [e2] X.env) (hpl : (backTo pos (starEach [e2] X.env)).any (·.1) = false) :
    PI X (.Tuple elts kk tpos) (.Call (.Name "zip" p) [e, e2] [] pos) (iZp X.K ta) := by
  refine ⟨fun pins s σ H R I h => ?_⟩
  refine Call_ (ld_blt I hg hm PyProof.Rows.boot_zip (PyProof.Rows.callWith_type1 (thn (ha.run pos pins s σ H _ I h) fun us s1 ⟨ws, H1, I1, r1, q1⟩ => ?_) hs hpl))
  obtain ⟨k1, k2, a, b, xs, ys, ex, hqx, hqy, q⟩ := q1
  subst ex
  cases r1 with
  | cons r rr =>
    cases rr with
    | cons r' rr =>
      cases rr
      cases r
      cases r'
      obtain ⟨its, rv, p1⟩ := Inv.sq I1 hqx
      obtain ⟨its2, rv2, p2⟩ := Inv.sq I1 hqy
      have la := holds_lt p1
      have lb := holds_lt p2
      refine zip_begins2 (begins k1 a its) (begins k2 b its2) p1 p2 fun h' hz hTI hTO h1 h2 hsz hk => wpAny_pyIter_zip hz ?_
      have I2 : L2.Inv X pins σ H1 { s1 with heap := h' } := I1.kept (t' := s1.toks) hk
      have sep := zip_sep2 (N := s1.heap.objs.size) (fp1 := [a]) (fp2 := [b]) (by simpa using la) (by simpa using lb)
      refine ⟨s1.heap.objs.size + 4, [s1.heap.objs.size + 4, s1.heap.objs.size + 2, s1.heap.objs.size + 3, s1.heap.objs.size, s1.heap.objs.size + 1], _, _, H1, rfl, I2, turn_z k1 k2 xs ys sep, ⟨hz, hTI, ⟨_, _, hTO⟩, itAt_new h1, itAt_new h2⟩, fun c hcm => ?_, q⟩
      have e' : c = s1.heap.objs.size + 4 ∨ c = s1.heap.objs.size + 2 ∨ c = s1.heap.objs.size + 3 ∨ c = s1.heap.objs.size ∨ c = s1.heap.objs.size + 1 := by simpa using hcm
      have hle : s1.heap.objs.size ≤ c := by
        rcases e' with z | z | z | z | z
        · rw [z]; exact Nat.le_add_right _ _
        · rw [z]; exact Nat.le_add_right _ _
        · rw [z]; exact Nat.le_add_right _ _
        · rw [z]; exact Nat.le_refl _
        · rw [z]; exact Nat.le_add_right _ _
      exact I1.fpOk hle (I1.hok.fresh hle)
end RI
/-! RIG: promises of defs that are kept where nothing is just being shown by repr. -/
namespace RI
open PySem PySem.Spec PyProof.Rows L2
structure FnG (P : Program) (w : World) (K : PySem.W.Frag) (mg : Str → Option Value) (base : Heap) (cx : CXT) (k : Nat) (f : Addr) (fd : FuncData) (ps : List Str) (sp : Sp) : Prop where
  len : ∀ vs H Q E, sp vs H Q E → vs.length = ps.length
  run : ∀ (A : Around) (outer : List PySem.Env) (s : Shared) (H : Hp) (args : Args) (us : List Value) (vs : List V) (Q : VK) (E : XK), A.guards = some [] → Room k A →
    Env0 P w K mg base A outer s H → BindsTo s fd args (ps.zip us) → Vals vs us → sp vs H Q E → codeAny (model P w) A (.call (.ref f) args) (CR cx outer P w H s Q E) s
theorem gd_deeper {A : Around} {env : PySem.Env} (h : A.guards = some []) : (A.deeper env).guards = some [] := h
theorem gd_in1 {A : Around} (h : A.guards = some []) : A.in1.guards = some [] := h
theorem gd_make {A : Around} {C : Addr} {us : List Value} (h : A.guards = some []) : (A.under (.builtin "type.__call__" ⟨.ref C :: us, []⟩)).guards = some [] := by
  have e : (Code.builtin "type.__call__" ⟨.ref C :: us, []⟩).isGuard = false := by show guardIds.contains "type.__call__" = false; decide
  simp [Around.under, Code.guards, e, h, pushGuards]
section
variable {X : Cx} {cx : CXT} {k : Nat} {f : Addr} {fd : FuncData} {ps : List Str} {sp : Sp} {E : St → XK}
theorem FnG.call {pins : List (Addr × Obj)} {σ : St} {H : Hp} {s : Shared} {Q : VK} {us : List Value} {vs : List V} (F : FnG X.prog X.w X.K X.mg X.base cx k f fd ps sp) (gd : X.A.guards = some []) (hr : Room k X.A)
    (hb : Binds X.K fd ps []) (hx : PassesAt cx X σ (E σ)) (I : Inv X pins σ H s) (r : Vals vs us) (h : sp vs H Q (E σ)) : wpAny (model X.prog X.w) X.A (PySem.call (.ref f) us) (EP X pins σ Q) X.xe s := by
  have l : us.length = ps.length := r.length.symm.trans (F.len _ _ _ _ h)
  have bd := hb s us I.kIn (by simpa using l)
  simp only [List.append_nil] at bd
  have run := F.run X.A X.stack s H ⟨us, []⟩ us vs Q (E σ) gd hr I.env0 bd r h
  refine wpAny_call (codeAny_mono run ?_)
  intro res s2 q
  match res, q with
  | .error e, q => exact hx pins H s e s2 I q
  | .ok (.ret u), q => exact I.after q
  | .ok .next, q => exact (show False from q).elim
  | .ok .brk, q => exact (show False from q).elim
  | .ok .cont, q => exact (show False from q).elim
end
/-- a def by its body -/
theorem okG {P : Program} {w : World} {K : PySem.W.Frag} {mg : Str → Option Value} {base : Heap} {cx : CXT} {x qual : Str} {params : Arguments} {body : List Stmt} {scope : Scope} {dvs : List V} {kws : List (Str × V)} {f : Addr} {fd : FuncData} {N ps : List Str} {k : Nat} {sp : Sp}
    (F : FunD K x qual params body scope dvs kws f fd) (S : FnScope N ps scope) (len : ∀ vs H Q E, sp vs H Q E → vs.length = ps.length)
    (hbody : ∀ (cdv : Value) (A : Around) (outer : List PySem.Env) (s : Shared) (H : Hp) (vs : List V) (Q : VK) (E : XK), A.guards = some [] → Room k (A.deeper (envOfC qual scope s.heap.objs.size f cdv)) → sp vs H Q E →
      ∃ t, PSs (cxOf cx P w K mg base N qual scope f cdv A outer s H E) body t ∧ t { nx := fun _ H' => Q .non H', rt := Q } (start N vs) H) : FnG P w K mg base cx (k + 1) f fd ps sp := by
  obtain ⟨oc, od, dV, kV, doc, pm, an, cdv, ct, osl, rfl, lk, hcd, _, _⟩ := F.ex
  constructor
  · exact len
  intro A outer s H args us vs Q E gd hr e0 hb r hsp
  have old := fun b o e => (e0.bs b o e).1
  have KX : K.In s.heap := e0.mod.kin.keeps old
  have kinds : ∀ y ∈ ps.zip us, scope.names.lookup y.1 = some .local ∨ (scope.names.lookup y.1 = some .cell ∧ ((cellsFrom (s.heap.objs.size + 1) scope.names []).lookup y.1).isSome = true) := by
    rintro ⟨n, v⟩ hy
    rcases S.par n (List.of_mem_zip hy).1 with q | q
    · exact Or.inl q
    · exact Or.inr ⟨q, PySem.W.cellsFrom_some _ _ _ (Or.inl q)⟩
  refine codeAny_call_function hr.depth (KX _ _ lk) rfl S.co S.gen rfl (PySem.W.codeRec_of KX hcd) (hb _ _ _ _ ?_)
  refine wpAny_newFunctionEnv_cells S.kind kinds ?_
  intro env he s1 x
  subst he
  refine ⟨(e0.mod.nolimit.keeps old).keeps x.toInCall.keep, codeAny_func ?_⟩
  obtain ⟨t, ht, hq⟩ := hbody cdv A outer s H vs Q E gd (hr.deeper _) hsp
  have I := inv_start (CX := cx) (N := N) (E := E) S hr.hd e0 (len _ _ _ _ hsp) r x
  refine wpAny_mono (ht.run [] s1 (start N vs) H _ I hq) ?_ (fun _ _ q => q)
  intro fl s2 hs
  match fl, hs with
  | .ret u, ⟨v, σ', H', J, rv, q⟩ => exact ⟨v, H', J.os, J.bare, J.base, J.hok, rv, q⟩
  | .next, ⟨σ', H', J, q⟩ => exact ⟨V.non, H', J.os, J.bare, J.base, J.hok, rfl, q⟩
  | .brk, ⟨_, _, _, q⟩ => exact (show False from q).elim
  | .cont, ⟨_, _, _, q⟩ => exact (show False from q).elim
/-- the law's own call -/
theorem lawG {P : Program} {w : World} {K : PySem.W.Frag} {mg mb : Str → Option Value} {cx : CXT} {k : Nat} {fa a : Addr} {fd : FuncData} {x : Str} {sp : Sp} {s0 : Shared} {us : List Value} {ns : List Int} (KX : K.In s0.heap) (hns : s0.heap.Ns mainGlobals mg) (hb : s0.heap.Ns builtinsNs mb)
    (hbb : ∀ x : Str, x ≠ "__name__" → mb x = bootBuiltins x) (hlim : s0.heap.NoLimit) (hg : s0.gens = #[]) (ha : s0.heap.get? a = some { cls := .type "list", data := .seq us.toArray }) (hi : IntsAre us ns) (hl : ns.length ≤ sizeLine) (hr : Room k callerA)
    (F : ∀ base : Heap, K.In base → base.Ns mainGlobals mg → FnG P w K mg base cx k fa fd [x] sp) (hbind : ∀ (s : Shared) (u : Value), BindsTo s fd ⟨[u], []⟩ [(x, u)])
    (hsp : ∀ H : Hp, Only H → SqL K H a (ns.map V.int) → sp [.ref a] H (fun v _ => v = .bl true) fun _ _ _ => False) (hcx : ∀ H e s', cx [] H s0 (fun _ _ _ => False) e s' → False) :
    codeAny (model P w) callerA (.call (.ref fa) ⟨[.ref a], []⟩) (fun r s' => r = .ok (.ret (.bool true)) ∧ OldK s0.heap s'.heap ∧ s'.os = s0.os ∧ AllBare s'.gens) s0 := by
  have lu := hi.length
  have rv := vals_ints hi
  -- the script is tracked where it is no object of the text
  obtain ⟨H, hH⟩ : ∃ H : Hp, H = fun b => if b = a ∧ K.lookup a = none then some (.frz { cls := .type "list", data := .seq us.toArray } (.lst (ns.map V.int))) else none := ⟨_, rfl⟩
  have at_ : ∀ b u, H b = some u → b = a ∧ K.lookup a = none ∧ u = .frz { cls := .type "list", data := .seq us.toArray } (.lst (ns.map V.int)) := by
    intro b u e
    rw [hH] at e
    dsimp only at e
    split at e
    · next c => cases e; exact ⟨c.1, c.2, rfl⟩
    · cases e
  have only : Only H := fun b => by
    cases e : H b with
    | none => exact .inl rfl
    | some u => obtain ⟨_, _, rfl⟩ := at_ b u e; exact .inr ⟨_, _, rfl⟩
  have sq : SqL K H a (ns.map V.int) := by
    cases hk : K.lookup a with
    | none => exact .inl (.inr ⟨{ cls := .type "list", data := .seq us.toArray }, by rw [hH]; exact if_pos ⟨rfl, hk⟩⟩)
    | some o =>
      have e := KX a o hk
      rw [ha] at e
      cases e
      exact .inr ⟨_, us.toArray, _, hk, rfl, rfl, rfl, by rw [List.size_toArray, lu]; exact hl, by simpa using rv⟩
  have hok : HOk P w H s0.heap := by
    intro b u e
    obtain ⟨rfl, _, rfl⟩ := at_ b u e
    exact ⟨ha, by simpa using hl, us, _, rv, ha⟩
  -- what is not tracked is the ground
  have ground : ∀ {b : Addr} {o : Obj}, s0.heap.get? b = some o → (b = a → K.lookup a ≠ none) → (hidT s0.heap H).get? b = some o := fun {b o} e n => hidT_get e (by
    cases q : H b with
    | none => rfl
    | some u => obtain ⟨e1, e2, _⟩ := at_ b u q; exact absurd e2 (n e1))
  have kin : K.In (hidT s0.heap H) := fun b o e => ground (KX b o e) fun z => by subst z; rw [e]; simp
  have space : ∀ {b : Addr} {m : Str → Option Value}, s0.heap.Ns b m → (hidT s0.heap H).Ns b m := fun {b m} ⟨o, es, ep, e, d, r⟩ => ⟨o, es, ep, ground e (fun z => by
    subst z
    rw [ha] at e
    cases e
    cases d), d, r⟩
  have md : Mod K mg (hidT s0.heap H) := ⟨kin, space hns, ⟨mb, space hb, hbb⟩, by
    obtain ⟨mc, h1, h2⟩ := hlim
    exact ⟨mc, space h1, h2⟩⟩
  have none_in : ∀ b : Addr, b ∈ frs [] → H b = none := fun b z => by simp [frs] at z
  have e0 : Env0 P w K mg (hidT s0.heap H) callerA [] s0 H := { frames := rfl, mod := md, bs := fun b o e => of_hidT e, bsz := Nat.le_of_eq (hidT_size _ _), funs := trivial, frf := none_in, hok := hok, bare := .of_eq hg }
  have go := (F _ kin (space hns)).run callerA [] s0 H ⟨[.ref a], []⟩ [.ref a] [.ref a] _ _ rfl hr e0 (hbind s0 (.ref a)) (.cons rfl .nil) (hsp H only sq)
  refine codeAny_mono go ?_
  intro r s2 h
  match r, h with
  | .error e, h => exact (hcx H e s2 h).elim
  | .ok .next, h => exact (show False from h).elim
  | .ok .brk, h => exact (show False from h).elim
  | .ok .cont, h => exact (show False from h).elim
  | .ok (.ret u), ⟨v, H2, os, bare, un, hok2, r2, q⟩ =>
    obtain rfl : v = .bl true := q
    obtain rfl : u = Value.bool true := r2
    refine ⟨rfl, OldK.of_keep ?_, os, bare⟩
    intro b o e
    cases q : H b with
    | none => exact un.keep b o e q (by simp [frs]) (by simp)
    | some u =>
      obtain ⟨_, _, rfl⟩ := at_ b u q
      have k1 := (hok b _ q).1
      have k2 := (hok2 b _ (un.frzs b _ _ q)).1
      rw [e] at k1
      cases k1
      exact k2
theorem walkG {l : PySem.W.OpenLaw} {n k : Nat} {q : Program} {loose : List Str} {XP : (Str → Option Value) → Heap → Prop} {YP : World → Heap → Prop} {d : DefRec} {cx : CXT} {x : Str} (hn : l.most = some n) (hn2 : n ≤ sizeLine) (hdf : d.params.defaults = []) (hr : Room k callerA)
    (F : ∀ (w : World) (mg : Str → Option Value) (fa : Addr) (h : Heap), YP w h → h.Ns mainGlobals mg → mg d.name = some (.ref fa) → ∃ (K : PySem.W.Frag) (fd : FuncData) (sp : Sp), K.In h ∧ (∀ (s : Shared) (u : Value), BindsTo s fd ⟨[u], []⟩ [(x, u)]) ∧
      (∀ (H : Hp) (a : Addr) (ns : List Int), ns.length ≤ n → Only H → SqL K H a (ns.map V.int) → sp [.ref a] H (fun v _ => v = .bl true) fun _ _ _ => False) ∧ ∀ base : Heap, K.In base → base.Ns mainGlobals mg → FnG l.prog w K mg base cx k fa fd [x] sp)
    (hcx : ∀ (H : Hp) (s : Shared) (e : Value) (s' : Shared), cx [] H s (fun _ _ _ => False) e s' → False) : PySem.W.WalkO q loose XP YP l.row.toRowW d [] (fun f vs => PySem.call f vs) := by
  refine Att.attach_call hn hdf ?_
  intro w s₀ s1 mg mb fa o pm cd doc a us ns G Y ho hd hcd hmg hobj hints hlen hg
  obtain ⟨K, fd, sp, KX, hb, hsp, hF⟩ := F w mg fa _ Y G.T.g hmg
  exact lawG KX G.T.g G.T.b G.T.builtins G.T.nolimit hg hobj hints (Nat.le_trans hlen hn2) hr hF hb (fun H hO hS => hsp H a ns hlen hO hS) fun H e s' => hcx H s1 e s'
end RI
/-! RI8: the rules for expressions, by the evaluator. -/
namespace RI
open PySem PySem.Spec PyProof.Rows L2

theorem _root_.L2.PE.of {X : Cx} {e : Expr} {t t' : TE} (h : PE X e t) (k : ∀ σ H Q, t' σ H Q → t σ H Q) : PE X e t' := ⟨fun pins s σ H Q I q => h.run pins s σ H Q I (k σ H Q q)⟩
theorem _root_.L2.PT.of {X : Cx} {e : Expr} {t t' : TT} (h : PT X e t) (k : ∀ σ H Q, t' σ H Q → t σ H Q) : PT X e t' := ⟨fun pins s σ H Q I q => h.run pins s σ H Q I (k σ H Q q)⟩
theorem _root_.L2.PA.of {X : Cx} {e : List Expr} {t t' : TA} (h : PA X e t) (k : ∀ σ H Q, t' σ H Q → t σ H Q) : PA X e t' := ⟨fun pos pins s σ H Q I q => h.run pos pins s σ H Q I (k σ H Q q)⟩
theorem _root_.L2.PS.of {X : Cx} {e : Stmt} {t t' : TS} (h : PS X e t) (k : ∀ D σ H, t' D σ H → t D σ H) : PS X e t' := ⟨fun pins s σ H D I q => h.run pins s σ H D I (k D σ H q)⟩
theorem _root_.L2.PSs.of {X : Cx} {e : List Stmt} {t t' : TS} (h : PSs X e t) (k : ∀ D σ H, t' D σ H → t D σ H) : PSs X e t' := ⟨fun pins s σ H D I q => h.run pins s σ H D I (k D σ H q)⟩
/-- a def's promise: what the evaluator says of the call -/
def spF (G : Wd) (call : List W → Store → Res W) (np : Nat) : Sp := fun vs H Q E => ∃ ρ S ws, RelS G ρ S H ∧ RelWs G none (Live ρ S) ρ H ws vs ∧ ws.length = np ∧
  Sat G E ρ S H (call ws S) fun w ρ' S' H' => ∀ v, RelW G none (Live ρ' S') ρ' H' w v → Q v H'
def bltNames : List Str := ["abs", "all", "any", "int", "len", "list", "str", "sum", "tuple", "min", "repr", "sorted", "range", "enumerate", "zip", "isinstance", "bool", "dict", "ValueError", "set"]
def tyVal (G : Wd) : Ty → Value
  | .none => .type "NoneType" | .bool => .type "bool" | .int => .type "int" | .str => .type "str" | .tuple => .type "tuple" | .list => .type "list" | .dict => .type "dict" | .cls c => .ref (G.ca c) | .valueError => .type "ValueError"
def tyOk (P : Prog) : Ty → Bool
  | .cls c => ordC P c
  | .none => false
  | .dict => false
  | .valueError => false
  | _ => true
structure FOk (G : Wd) (X : Cx) (k : Nat) (call : List W → Store → Res W) (f : Nat) (np : Nat) : Prop where
  ex : ∃ (fd : FuncData) (ps : List Str), ps.length = np ∧ FnG X.prog X.w X.K X.mg X.base (L2.CX X.prog X.w) k (G.fa f) fd ps (spF G call np) ∧ Binds X.K fd ps []
  kp : PySem.W.keepIn X.K (.ref (G.fa f)) = true
structure ClsF (G : Wd) (K : PySem.W.Frag) (P : Prog) (c : Nat) : Prop where
  cls : Cls K (G.ca c)
  kp : PySem.W.keepIn K (.ref (G.ca c)) = true
  ha : PySem.W.findIn K (.ref (G.ca c)) "__class__" = some (some (.builtin "object.__class__"))
  hn : PySem.W.specialIn K (.builtin "object.__class__") "__get__" = some (some (.builtin "getset_descriptor.__get__"))
  htk : PySem.W.takesIn K (.builtin "object.__class__") = some true
  hm : PySem.W.mroIn K (G.ca c) (.type "object") = some true
  na : ∀ f ∈ P.flds, NoAttr K (G.ca c) (G.nm f)
structure EqF (G : Wd) (K : PySem.W.Frag) (c f : Nat) : Prop where
  eq : PySem.W.findIn K (.ref (G.ca c)) "__eq__" = some (some (.ref (G.fa f)))
  ne : PySem.W.findIn K (.ref (G.ca c)) "__ne__" = some (some (.builtin "object.__ne__"))
  fn : PySem.W.isFn K (.ref (G.fa f)) = true
  sT : PySem.W.subIn K (.type "tuple") (.ref (G.ca c)) = some false
  sN : PySem.W.subIn K (.type "NoneType") (.ref (G.ca c)) = some false
  hm : PySem.W.mroIn K (G.ca c) (.type "object") = some true
/-- what the __init__ of an error class does: self.f = v -/
def spX (G : Wd) (c f : Nat) : Sp := fun vs H Q _ => ∃ (a : Addr) (v : V), vs = [.ref a, v] ∧ H a = some (exo a (G.ca c) none) ∧
  ∀ dx, H dx = none → dx ≠ a → Q .non (upd (upd H dx (exd dx [(G.nm f, v)])) a (exo a (G.ca c) (some dx)))
def veB : List Value := [.type "ValueError", .type "Exception", .type "BaseException", .type "object"]
def tyX (P : Prog) : Ty → Bool
  | .valueError => true
  | .cls c => excC P c
  | _ => false
/-- an error class -/
structure ExF (G : Wd) (Pm : Program) (w : World) (K : PySem.W.Frag) (mg : Str → Option Value) (base : Heap) (P : Prog) (c : Nat) (fs : List Nat) : Prop where
  kC : PySem.W.keepIn K (.ref (G.ca c)) = true
  tyC : PySem.W.typeIn K (.ref (G.ca c)) = some (.type "type")
  cl : ExcC K (G.ca c)
  own : fs = [] → PySem.W.excIn K (G.ca c) veB "ValueError.__new__" = true
  ini : ∀ f, fs = [f] → OexC K (G.ca c) ∧ ∃ (fI : Addr) (fd : FuncData) (ps : List Str), PySem.W.findIn K (.ref (G.ca c)) "__init__" = some (some (.ref fI)) ∧ PySem.W.typeIn K (.ref fI) = some (.type "function") ∧
    FnOk Pm w K mg base CX0 1 fI fd ps (spX G c f) ∧ Binds K fd ps []
  one : fs.length ≤ 1
  nof : ∀ f, P.flds.contains f = true → PySem.W.findIn K (.ref (G.ca c)) (G.nm f) = some none
  exm : ∀ c', excC P c' = true → PySem.W.exmOne K (.ref (G.ca c)) (.ref (G.ca c')) = some (tyIs P (.cls c) (.cls c'))
  kit : ∀ u, tyX P u = true → PySem.W.kitOne K (.ref (G.ca c)) (tyVal G u) = some (tyIs P (.cls c) u)
/-- a written dict of the module: its place, what it holds -/
def TabF (G : Wd) (K : PySem.W.Frag) (w : World) (mg : Str → Option Value) (T : List (List Nat × D)) (x : Str) : Prop :=
  ∃ a es n, mg x = some (.ref a) ∧ K.lookup a = some ⟨.type "dict", none, .dict es n, #[]⟩ ∧ PySem.W.KeysLit w.params es.toList ∧ (a == sysModules) = false ∧
    ∀ s, match tabD T s with
      | some d => ∃ v u, PySem.W.nsIn K a (Str' s) = some (some u) ∧ RelV v u ∧ ∀ L H, RelD G L H d v
      | none => PySem.W.nsIn K a (Str' s) = some none
/-- what is known where an expression is run -/
structure Sd (G : Wd) (Wx : L2.WX) (C : Ctx) (k : Nat) (X : Cx) : Prop where
  hK : X.K = G.K
  nd : X.N.Nodup
  tk : L2.Takes X Wx
  un : X.A.units + 66 < cLine
  room : X.calm = true → Room (k + 1) X.A
  gd : X.A.guards = some []
  fok : ∀ f fd, C.P.fns[f]? = some fd → FOk G X k (C.call f) f fd.np
  fmg : ∀ f fd, C.P.fns[f]? = some fd → fd.top = true → X.mg fd.name = some (.ref (G.fa f))
  cmg : ∀ c d, C.P.cls[c]? = some d → X.mg d.name = some (.ref (G.ca c))
  bmg : ∀ x ∈ bltNames, X.mg x = none
  cst : ∀ (k : Nat) d x, C.P.consts[k]? = some d → C.P.cnm[k]? = some x → ∃ v u, X.mg x = some u ∧ RelV v u ∧ ∀ L H, RelD G L H d v
  tab : ∀ (i : Nat) T x, C.P.tabs[i]? = some T → C.P.tnm[i]? = some x → TabF G X.K X.w X.mg T x
  clf : ∀ c, ordC C.P c = true → ClsF G X.K C.P c
  mkf : ∀ c d f, C.P.cls[c]? = some d → d.init = some f → Mk X.K (G.ca c) (G.fa f)
  eqm : ∀ c d f, C.P.cls[c]? = some d → lookN 0 d.meths = some f → EqF G X.K c f ∧ ∃ fd, C.P.fns[f]? = some fd ∧ fd.np = 2
  mth : ∀ c d m f, C.P.cls[c]? = some d → ordC C.P c = true → (m, f) ∈ d.meths → Meth X.K (G.ca c) (G.nm m) (G.fa f)
  exf : ∀ c d fs, C.P.cls[c]? = some d → d.exc = some fs → ExF G X.prog X.w X.K X.mg X.base C.P c fs
  nmI : ∀ f g, G.nm f = G.nm g → f = g
  kit : ∀ t u, tyOk0 C.P t = true → tyOk C.P u = true → PySem.W.kitOne X.K (tyVal G t) (tyVal G u) = some (tyIs C.P t u)

abbrev RE (G : Wd) (ex : Ex) (Wx : L2.WX) (C : Ctx) (e : IE) : TE := RdE G ex Wx (evalP C e).1
abbrev RT (G : Wd) (ex : Ex) (Wx : L2.WX) (C : Ctx) (e : IE) : TT := RdT G ex Wx (evalP C e).2
abbrev REs (G : Wd) (ex : Ex) (Wx : L2.WX) (C : Ctx) (es : IEs) : TA := RdEs G ex Wx (evalEs C es)

section
variable {G : Wd} {ex : Ex} {Wx : L2.WX} {C : Ctx} {k : Nat} {X : Cx} {pos p p2 : Pos} {x : Str} {i : Nat} {a b c : Expr} {ia ib ic : IE}

theorem Res.bind_assoc {α β γ : Type} (r : Res α) (f : α → Store → Res β) (g : β → Store → Res γ) : (r.bind f).bind g = r.bind fun a S => (f a S).bind g := by cases r <;> rfl
/-- a value that is at hand -/
theorem rd_ok {m : Env → Store → Res W} {σ : St} {H : Hp} {Q : VK} {v : V} {w : W} (r : ∀ L ρ, RelW G ex L ρ H w v) (e : ∀ η S, m η S = .ok w S) (q : RdE G ex Wx m σ H Q) : Q v H := by
  obtain ⟨ρ, η, S, R, h⟩ := q
  rw [e] at h
  exact h.now R.st v (r _ _)

theorem e_var (hN : X.N[i]? = some x) (hv : Vis X.env.scope x) (hd : (x == ("__debug__" : Str)) = false := by decide) (hcd : (x == ("__classdict__" : Str)) = false := by decide) : PE X (.Name x pos) (RE G ex Wx C (.var i)) :=
  (pe_var hN hv hd hcd).of fun σ H Q ⟨ρ, η, S, R, h⟩ => by
    obtain ⟨w, e, h2⟩ := Sat.ofO (show Sat _ _ _ _ _ (ofO (getV η i) S) _ from h)
    obtain ⟨v, e2, r⟩ := R.get e
    exact ⟨v, e2, h2.now R.st v r⟩
theorem e_int {j : Int} {kk} : PE X (.Constant (.int j) kk pos) (RE G ex Wx C (.int j)) := pe_int.of fun σ H Q q => rd_ok (fun _ _ => .d (.int j)) (fun _ _ => rfl) q
theorem e_bl {j : Bool} {kk} : PE X (.Constant (.bool j) kk pos) (RE G ex Wx C (.bl j)) := pe_bl.of fun σ H Q q => rd_ok (fun _ _ => .d (.bl j)) (fun _ _ => rfl) q
theorem e_non {kk} : PE X (.Constant .none kk pos) (RE G ex Wx C .non) := pe_non.of fun σ H Q q => rd_ok (fun _ _ => .d .non) (fun _ _ => rfl) q
theorem e_str {s : Str} {t : List Nat} {kk} (h : s = Str' t := by rfl) : PE X (.Constant (.str s) kk pos) (RE G ex Wx C (.str t)) := pe_str.of fun σ H Q q => rd_ok (fun _ _ => h ▸ .d (.str t)) (fun _ _ => rfl) q
theorem e_glob (S : Sd G Wx C k X) {d : D} (hg : Gl X x) (h1 : C.P.consts[i]? = some d) (h2 : C.P.cnm[i]? = some x) (hd : (x == ("__debug__" : Str)) = false := by decide) : PE X (.Name x pos) (RE G ex Wx C (.glob i)) := by
  obtain ⟨v, u, hm, r, hr⟩ := S.cst i d x h1 h2
  exact (pe_glob hg hm r hd).of fun σ H Q q => rd_ok (w := .d d) (fun _ _ => .d (hr _ _)) (fun η S => by show (ofO C.P.consts[i]? S).bind _ = _; rw [h1]; rfl) q
theorem e_fnv (S : Sd G Wx C k X) {fd : FnD} (hg : Gl X x) (h1 : C.P.fns[i]? = some fd) (h2 : fd.name = x) (h3 : fd.top = true) (hd : (x == ("__debug__" : Str)) = false := by decide) : PE X (.Name x pos) (RE G ex Wx C (.fnv i)) := by
  subst h2
  exact (pe_glob hg (S.fmg i fd h1 h3) (v := .ref (G.fa i)) rfl hd).of fun σ H Q q => rd_ok (fun _ _ => .d (.fn i)) (fun _ _ => rfl) q

theorem es_nil : PA X [] (REs G ex Wx C .nil) := ⟨fun pos pins s σ H Q I ⟨ρ, η, S, R, h⟩ => pa_nil.run pos pins s σ H Q I ((show Sat _ _ _ _ _ (.ok [] S) _ from h).now R.st [] .nil)⟩
theorem es_cons {es : List Expr} {ies : IEs} (ha : PE X a (RE G ex Wx C ia)) (hr : PA X es (REs G ex Wx C ies)) (hs : starEach (a :: es) X.env = (false, eval a X.env) :: starEach es X.env := by rfl) : PA X (a :: es) (REs G ex Wx C (.cons ia ies)) :=
  (pa_cons ha hr hs).of fun σ H Q ⟨ρ, η, S, R, h⟩ => rd1 (f := fun w S1 => (evalEs C ies η S1).bind fun ws S2 => .ok (w :: ws) S2) R h fun w v ρ1 S1 H1 R1 e1 r1 h1 => rd1s R1 h1 fun ws vs ρ2 S2 H2 R2 e2 r2 h2 => h2.now R2.st (v :: vs) (.cons (r1.mono e2.kp e2.pre) r2)
theorem evalEs_len {C : Ctx} {η : Env} : ∀ (es : IEs) (S : Store) (ws : List W) (S' : Store), evalEs C es η S = .ok ws S' → ws.length = es.len
  | .nil, S, ws, S', h => by cases (show Res.ok [] S = .ok ws S' from h); rfl
  | .cons e es, S, ws, S', h => by
    replace h : (((evalP C e).1 η S).bind fun w S1 => (evalEs C es η S1).bind fun ws S2 => .ok (w :: ws) S2) = .ok ws S' := h
    cases h1 : (evalP C e).1 η S with
    | ok w S1 =>
      rw [h1, Res.bind_ok] at h
      cases h2 : evalEs C es η S1 with
      | ok us S2 =>
        rw [h2, Res.bind_ok] at h
        cases h
        exact congrArg (· + 1) (evalEs_len es S1 us _ h2)
      | exc c fs S2 => rw [h2] at h; cases h
      | stk => rw [h2] at h; cases h
    | exc c fs S2 => rw [h1] at h; cases h
    | stk => rw [h1] at h; cases h
theorem evalEs_bind {β : Type} {C : Ctx} {η : Env} (es : IEs) (S : Store) (f : List W → Store → Res β) : (evalEs C es η S).bind f = (evalEs C es η S).bind fun ws S1 => if ws.length = es.len then f ws S1 else .stk := by
  cases h : evalEs C es η S with
  | ok ws S1 => simp [evalEs_len es S ws S1 h]
  | exc c fs S2 => rfl
  | stk => rfl
/-- a list of written values, with its length -/
theorem rd1n {ies : IEs} {ρ : Rho} {S : Store} {H : Hp} {σ : L2.St} {η : Env} {α : Type} {P : α → Rho → Store → Hp → Prop} {f : List W → Store → Res α} {Q : List V → Hp → Prop} (R : RelAll G ex ρ η S σ H) (h : Sat G (fun c d H => Wx c d σ H) ρ S H ((evalEs C ies η S).bind f) P)
    (k : ∀ ws vs ρ1 S1 H1, RelAll G ex ρ1 η S1 σ H1 → Ext ρ S H ρ1 S1 H1 → RelWs G ex (Live ρ1 S1) ρ1 H1 ws vs → vs.length = ies.len → Sat G (fun c d H => Wx c d σ H) ρ1 S1 H1 (f ws S1) P → Q vs H1) : REs G ex Wx C ies σ H Q := by
  rw [evalEs_bind] at h
  refine rd1s R h fun ws vs ρ1 S1 H1 R1 e1 r1 h1 => ?_
  split at h1
  · next e => exact k ws vs ρ1 S1 H1 R1 e1 r1 (by rw [← r1.length]; exact e) h1
  · exact h1.elim
theorem RelAll.newObj {ρ : Rho} {S : Store} {H : Hp} {σ : L2.St} {η : Env} {p : Addr} {o : HO} (R : RelAll G ex ρ η S σ H) (hp : H p = none) : RelAll G ex ρ η S σ (upd H p o) := R.mono (Ext.newObj hp) (R.st.newObj hp)
/-- the answer may come later -/
theorem Sat.after {α : Type} {ρ ρ1 : Rho} {S S1 : Store} {H H1 : Hp} {W' : XK} {z : α} {P : α → Rho → Store → Hp → Prop} (h : Sat G W' ρ S H (.ok z S1) P) (e : Ext ρ S H ρ1 S1 H1) (R : RelS G ρ1 S1 H1) : P z ρ1 S1 H1 := h ρ1 H1 e R
theorem e_tup {es : List Expr} {ies : IEs} {kk} (h : PA X es (REs G ex Wx C ies)) (hl : ies.len ≤ sizeLine := by decide) : PE X (.Tuple es kk pos) (RE G ex Wx C (.tup ies)) :=
  (pe_tup h).of fun σ H Q ⟨ρ, η, S, R, h0⟩ => rd1n (f := fun ws S1 => (toDs ws S1).bind fun xs S2 => .ok (W.d (.tup xs)) S2) R h0 fun ws vs ρ1 S1 H1 R1 e1 r1 l1 h1 => by
    obtain ⟨xs, S2, e2, R2, r2, h2⟩ := h1.toDs_bind R1.st r1
    exact ⟨by rw [l1]; exact hl, fun p hp => (h2.from (Ext.newObj (o := .tup vs) hp)).now (R2.newObj hp) _ (.d (RelD.newTup R2 hp r2))⟩
theorem e_lst {es : List Expr} {ies : IEs} (h : PA X es (REs G ex Wx C ies)) (hl : ies.len ≤ sizeLine := by decide) : PE X (.List es pos) (RE G ex Wx C (.lst ies)) :=
  (pe_lst h).of fun σ H Q ⟨ρ, η, S, R, h0⟩ => rd1n (f := fun ws S1 => (toDs ws S1).bind fun xs S2 => .ok (W.d (.lst xs)) S2) R h0 fun ws vs ρ1 S1 H1 R1 e1 r1 l1 h1 => by
    obtain ⟨xs, S2, e2, R2, r2, h2⟩ := h1.toDs_bind R1.st r1
    exact ⟨by rw [l1]; exact hl, fun p hp => (h2.from (Ext.newObj (o := .lst vs) hp)).now (R2.newObj hp) _ (.d (RelD.newLst R2 hp r2))⟩
/-- a new list that is written later on: it gets a cell -/
theorem RelAll.newCell {ρ : Rho} {S : Store} {H : Hp} {σ : L2.St} {η : Env} {p : Addr} {o : HO} {c : Cell} (R : RelAll G ex ρ η S σ H) (hp : H p = none) (hc : RelC G (Live (ρ.app [p]) (S ++ [c])) (ρ.app [p]) (upd H p o) c p) :
    RelAll G ex (ρ.app [p]) η (S ++ [c]) σ (upd H p o) := R.mono (Ext.newCell R.st hp) (R.st.newCell hp hc)
theorem app_get (ρ : Rho) (p : Addr) : (ρ.app [p]).l[ρ.l.length]? = some p := by
  show (ρ.l ++ [p])[ρ.l.length]? = some p
  simp
theorem RelS.newLst {ρ : Rho} {S : Store} {H : Hp} {p : Addr} {xs : List D} {vs : List V} (R : RelS G ρ S H) (hp : H p = none) (h : RelDs G (Live ρ S) H xs vs) :
    RelS G (ρ.app [p]) (S ++ [.lst xs]) (upd H p (.lst vs)) := R.newCell hp (.lst (upd_same ..) (h.mono (Ext.newCell R hp).kp))
theorem e_lstT {es : List Expr} {ies : IEs} (h : PA X es (REs G ex Wx C ies)) (hl : ies.len ≤ sizeLine := by decide) : PE X (.List es pos) (RE G ex Wx C (.thaw (.lst ies))) :=
  (pe_lst h).of fun σ H Q ⟨ρ, η, S, R, h0⟩ => by
    replace h0 : Sat G (fun c d H => Wx c d σ H) ρ S H (((evalEs C ies η S).bind fun ws S1 => (toDs ws S1).bind fun xs S2 => .ok (W.d (.lst xs)) S2).bind fun w S1 => thawD w S1) _ := h0
    have hb : (((evalEs C ies η S).bind fun ws S1 => (toDs ws S1).bind fun xs S2 => .ok (W.d (.lst xs)) S2).bind fun w S1 => thawD w S1) = (evalEs C ies η S).bind fun ws S1 => (toDs ws S1).bind fun xs S2 => .ok (W.loc S2.length) (S2 ++ [.lst xs]) := by
      cases evalEs C ies η S with
      | ok ws S1 =>
        show ((toDs ws S1).bind _).bind _ = (toDs ws S1).bind _
        cases toDs ws S1 <;> rfl
      | exc c fs S2 => rfl
      | stk => rfl
    rw [hb] at h0
    refine rd1n R h0 fun ws vs ρ1 S1 H1 R1 e1 r1 l1 h1 => ?_
    obtain ⟨xs, S2, e2, R2, r2, h2⟩ := h1.toDs_bind R1.st r1
    refine ⟨by rw [l1]; exact hl, fun p hp => ?_⟩
    exact h2.after (Ext.newCell (c := .lst xs) (o := .lst vs) R2 hp) (R2.newLst hp r2) _ (.loc (by rw [← R2.len]; exact app_get _ _))
theorem e_bin {o : BOp} {op : Operator} (S : Sd G Wx C k X) (ha : PE X a (RE G ex Wx C ia)) (hb : PE X b (RE G ex Wx C ib)) (ho : op = o.op := by rfl) : PE X (.BinOp a op b pos) (RE G ex Wx C (.bin o ia ib)) := by
  subst ho
  exact (pe_op (or_bin (o := o) (G := G) (ex := ex) S.hK) ha hb).of fun σ H Q ⟨ρ, η, S, R, h0⟩ => rd1 (f := fun x S1 => ((evalP C ib).1 η S1).bind fun y S2 => (ofO (binD o x y S2) S2).bind fun z S3 => .ok (W.d z) S3) R h0 fun w v ρ1 S1 H1 R1 e1 r1 h1 =>
    rd1 R1 h1 fun w2 v2 ρ2 S2 H2 R2 e2 r2 h2 => by
      obtain ⟨z, ez, h3⟩ := h2.ofO_bind
      exact ⟨ρ2, S2, w, w2, z, R2.st, r1.mono e2.kp e2.pre, r2, ez, fun v' H' e3 R3 r3 => h3.after e3 R3 v' (.d r3)⟩
theorem e_neg (ha : PE X a (RE G ex Wx C ia)) : PE X (.UnaryOp .USub a pos) (RE G ex Wx C (.neg ia)) :=
  (pe_un un_neg ha).of fun σ H Q ⟨ρ, η, S, R, h0⟩ => rd1 (f := fun x S1 => match x with
    | .d (.int i) => .ok (W.d (.int (-i))) S1
    | _ => .stk) R h0 fun w v ρ1 S1 H1 R1 e1 r1 h1 => by
      cases r1 with
      | d r1 =>
        cases r1 with
        | int i => exact ⟨i, rfl, h1.now R1.st _ (.d (.int _))⟩
        | _ => exact (show False from h1).elim
      | _ => exact (show False from h1).elim
theorem e_not (S : Sd G Wx C k X) (ha : PE X a (RE G ex Wx C ia)) : PE X (.UnaryOp .Not a pos) (RE G ex Wx C (.not ia)) :=
  (pe_notT ha).of fun σ H Q ⟨ρ, η, St, R, h0⟩ => rd1 (f := fun x S1 => (ofO (truthy x S1) S1).bind fun b S2 => .ok (W.d (.bl (!b))) S2) R h0 fun w v ρ1 S1 H1 R1 e1 r1 h1 => by
    obtain ⟨z, ez, h3⟩ := h1.ofO_bind
    exact ⟨z, tru_of S.hK R1.st r1 ez, h3.now R1.st _ (.d (.bl _))⟩
theorem cmpW_plain {C : Ctx} {o : COp} (hq : o ≠ .eq ∧ o ≠ .ne) (x y : W) (S : Store) : cmpW C o x y S = (ofO (cmpD o x y S) S).bind fun k S1 => .ok (.d (.bl k)) S1 := by
  cases o <;> first | rfl | exact absurd rfl hq.1 | exact absurd rfl hq.2
/-- no class has an == of its own, or the values are no objects -/
theorem e_cmp {o : COp} {op : CmpOp} (S : Sd G Wx C k X) (ha : PE X a (RE G ex Wx C ia)) (hb : PE X b (RE G ex Wx C ib)) (hq : o ≠ .eq ∧ o ≠ .ne := by decide) (hm : behindInMarks op b = false := by with_unfolding_all rfl) (ho : op = o.op := by rfl) :
    PE X (.Compare a [op] [b] pos) (RE G ex Wx C (.cmp o ia ib)) := by
  subst ho
  exact (pe_cmpR (or_cmp (o := o) (G := G) (ex := ex) S.hK (by have := S.un; omega)) ha hb hm).of fun σ H Q ⟨ρ, η, St, R, h0⟩ => rd1 (f := fun x S1 => ((evalP C ib).1 η S1).bind fun y S2 => cmpW C o x y S2) R h0 fun w v ρ1 S1 H1 R1 e1 r1 h1 =>
    rd1 R1 h1 fun w2 v2 ρ2 S2 H2 R2 e2 r2 h2 => by
      rw [cmpW_plain hq] at h2
      obtain ⟨z, ez, h4⟩ := h2.ofO_bind
      exact ⟨ρ2, S2, w, w2, z, R2.st, r1.mono e2.kp e2.pre, r2, ez, h4.now R2.st _ (.d (.bl z))⟩
theorem e_chain {o o' : COp} {op op' : CmpOp} (S : Sd G Wx C k X) (ha : PE X a (RE G ex Wx C ia)) (hb : PE X b (RE G ex Wx C ib)) (hc : PE X c (RE G ex Wx C ic)) (hm : lastMarks [op, op'] [b, c] = false := by with_unfolding_all rfl) (ho : op = o.op := by rfl) (ho' : op' = o'.op := by rfl) :
    PE X (.Compare a [op, op'] [b, c] pos) (RE G ex Wx C (.chain o o' ia ib ic)) := by
  subst ho ho'
  have hu : X.A.units + 65 < cLine := by have := S.un; omega
  exact (pe_chain (or_cmp (o := o) (G := G) (ex := ex) S.hK hu) (or_cmp (o := o') (G := G) (ex := ex) S.hK hu) ha hb hc hm).of fun σ H Q ⟨ρ, η, St, R, h0⟩ => rd1 (f := fun x S1 => ((evalP C ib).1 η S1).bind fun y S2 => (ofO (cmpD o x y S2) S2).bind fun k S3 =>
      if k = true then ((evalP C ic).1 η S3).bind fun z S4 => (ofO (cmpD o' y z S4) S4).bind fun k' S5 => .ok (W.d (.bl k')) S5 else .ok (.d (.bl false)) S3) R h0 fun w v ρ1 S1 H1 R1 e1 r1 h1 =>
    rd1 R1 h1 fun w2 v2 ρ2 S2 H2 R2 e2 r2 h2 => by
      obtain ⟨z, ez, h4⟩ := h2.ofO_bind
      refine ⟨ρ2, S2, w, w2, z, R2.st, r1.mono e2.kp e2.pre, r2, ez, z, rfl, ?_⟩
      cases z with
      | false => exact h4.now R2.st _ (.d (.bl false))
      | true =>
        refine rd1 R2 h4 fun w3 v3 ρ3 S3 H3 R3 e3 r3 h5 => ?_
        obtain ⟨z', ez', h6⟩ := h5.ofO_bind
        exact ⟨ρ3, S3, w2, w3, z', R3.st, r2.mono e3.kp e3.pre, r3, ez', h6.now R3.st _ (.d (.bl z'))⟩
theorem RelD.is_non {L : Addr → Prop} {H : Hp} {d : D} {v : V} (h : RelD G L H d v) : v = .non ↔ d = .non := by
  cases h <;> simp
theorem e_isn {kk} (ha : PE X a (RE G ex Wx C ia)) : PE X (.Compare a [.Is] [.Constant .none kk p] pos) (RE G ex Wx C (.isn false ia)) :=
  (pe_cmpR op_isN ha (pe_non (X := X) (j := kk) (pos := p)) rfl).of fun σ H Q ⟨ρ, η, St, R, h0⟩ => rd1 (f := fun x S1 => match x with
    | .d .non => .ok (W.d (.bl (!false))) S1
    | _ => .ok (.d (.bl false)) S1) R h0 fun w v ρ1 S1 H1 R1 e1 r1 h1 => by
      refine ⟨rfl, ?_⟩
      cases r1 with
      | d r1 => cases r1 <;> (simp only [reduceCtorEq, decide_false, decide_true]; exact h1.now R1.st _ (.d (.bl _)))
      | _ => simp only [reduceCtorEq, decide_false]; exact h1.now R1.st _ (.d (.bl _))
theorem e_isnt {kk} (ha : PE X a (RE G ex Wx C ia)) : PE X (.Compare a [.IsNot] [.Constant .none kk p] pos) (RE G ex Wx C (.isn true ia)) :=
  (pe_cmpR op_notN ha (pe_non (X := X) (j := kk) (pos := p)) rfl).of fun σ H Q ⟨ρ, η, St, R, h0⟩ => rd1 (f := fun x S1 => match x with
    | .d .non => .ok (W.d (.bl (!true))) S1
    | _ => .ok (.d (.bl true)) S1) R h0 fun w v ρ1 S1 H1 R1 e1 r1 h1 => by
      refine ⟨rfl, ?_⟩
      cases r1 with
      | d r1 => cases r1 <;> (simp only [reduceCtorEq, decide_false, decide_true]; exact h1.now R1.st _ (.d (.bl _)))
      | _ => simp only [reduceCtorEq, decide_false]; exact h1.now R1.st _ (.d (.bl _))
theorem e_ifx (hc : PT X c (RT G ex Wx C ic)) (ha : PE X a (RE G ex Wx C ia)) (hb : PE X b (RE G ex Wx C ib)) : PE X (.IfExp c a b pos) (RE G ex Wx C (.ifx ic ia ib)) :=
  (pe_ifExp hc ha hb).of fun σ H Q ⟨ρ, η, St, R, h0⟩ => rd1t (f := fun k S1 => if k = true then (evalP C ia).1 η S1 else (evalP C ib).1 η S1) R h0 fun z ρ1 S1 H1 R1 e1 h1 => by
    cases z with
    | true => exact ⟨ρ1, η, S1, R1, h1⟩
    | false => exact ⟨ρ1, η, S1, R1, h1⟩
/-! ### and, or -/
theorem e_one {op} (h : PE X a (RE G ex Wx C ia)) : PE X (.BoolOp op [a] pos) (RdE G ex Wx (evalAnd C (.cons ia .nil)).1) := pe_one h
theorem e_oneO {op} (h : PE X a (RE G ex Wx C ia)) : PE X (.BoolOp op [a] pos) (RdE G ex Wx (evalOr C (.cons ia .nil)).1) := pe_one h
theorem e_and2 {i2 : IE} {ies : IEs} {rest : List Expr} (S : Sd G Wx C k X) (ha : PE X a (RE G ex Wx C ia)) (hb : PE X (.BoolOp .And (b :: rest) pos) (RdE G ex Wx (evalAnd C (.cons i2 ies)).1)) :
    PE X (.BoolOp .And (a :: b :: rest) pos) (RdE G ex Wx (evalAnd C (.cons ia (.cons i2 ies))).1) :=
  (pe_andT ha hb).of fun σ H Q ⟨ρ, η, St, R, h0⟩ => rd1 (f := fun x S1 => (ofO (truthy x S1) S1).bind fun k S2 => if k = true then (evalAnd C (.cons i2 ies)).1 η S2 else .ok x S2) R h0 fun w v ρ1 S1 H1 R1 e1 r1 h1 => by
    obtain ⟨z, ez, h3⟩ := h1.ofO_bind
    refine ⟨z, tru_of S.hK R1.st r1 ez, ?_⟩
    cases z with
    | true => exact ⟨ρ1, η, S1, R1, h3⟩
    | false => exact h3.now R1.st _ r1
theorem e_or2 {i2 : IE} {ies : IEs} {rest : List Expr} (S : Sd G Wx C k X) (ha : PE X a (RE G ex Wx C ia)) (hb : PE X (.BoolOp .Or (b :: rest) pos) (RdE G ex Wx (evalOr C (.cons i2 ies)).1)) :
    PE X (.BoolOp .Or (a :: b :: rest) pos) (RdE G ex Wx (evalOr C (.cons ia (.cons i2 ies))).1) :=
  (pe_orT ha hb).of fun σ H Q ⟨ρ, η, St, R, h0⟩ => rd1 (f := fun x S1 => (ofO (truthy x S1) S1).bind fun k S2 => if k = true then .ok x S2 else (evalOr C (.cons i2 ies)).1 η S2) R h0 fun w v ρ1 S1 H1 R1 e1 r1 h1 => by
    obtain ⟨z, ez, h3⟩ := h1.ofO_bind
    refine ⟨z, tru_of S.hK R1.st r1 ez, ?_⟩
    cases z with
    | false => exact ⟨ρ1, η, S1, R1, h3⟩
    | true => exact h3.now R1.st _ r1
theorem e_and {ies : IEs} {es : List Expr} (h : PE X (.BoolOp .And es pos) (RdE G ex Wx (evalAnd C ies).1)) : PE X (.BoolOp .And es pos) (RE G ex Wx C (.and ies)) := h
theorem e_or {ies : IEs} {es : List Expr} (h : PE X (.BoolOp .Or es pos) (RdE G ex Wx (evalOr C ies).1)) : PE X (.BoolOp .Or es pos) (RE G ex Wx C (.or ies)) := h
/-! ### tests -/
/-- the test is the value's truth -/
def plainT : IE → Bool
  | .not _ => false
  | .and _ => false
  | .or _ => false
  | _ => true
theorem evalP_plain {C : Ctx} : ∀ {e : IE}, plainT e = true → evalP C e = mkV (evalP C e).1 := by
  intro e h
  cases e <;> first | rfl | cases h
theorem t_val (S : Sd G Wx C k X) (h : PE X a (RE G ex Wx C ia)) (hp : plainT ia = true := by rfl) (he : ∀ whole, isTrue a X.env whole = (do let v ← whole; standAt a.pos; holding [v] (PySem.truthy v)) := by intro _; rfl) : PT X a (RT G ex Wx C ia) :=
  (pt_truth h he).of fun σ H Q ⟨ρ, η, St, R, h0⟩ => by
    rw [show (evalP C ia).2 = (mkV (evalP C ia).1).2 from congrArg (·.2) (evalP_plain hp)] at h0
    refine rd1 (f := fun x S1 => ofO (truthy x S1) S1) R h0 fun w v ρ1 S1 H1 R1 e1 r1 h1 => ?_
    obtain ⟨z, ez, h3⟩ := h1.ofO
    exact ⟨z, tru_of S.hK R1.st r1 ez, h3.now R1.st⟩
theorem t_cmp {o : COp} {op : CmpOp} (S : Sd G Wx C k X) (ha : PE X a (RE G ex Wx C ia)) (hb : PE X b (RE G ex Wx C ib)) (hq : o ≠ .eq ∧ o ≠ .ne := by decide) (hm : behindInMarks op b = false := by with_unfolding_all rfl) (ho : op = o.op := by rfl) :
    PT X (.Compare a [op] [b] pos) (RT G ex Wx C (.cmp o ia ib)) := by
  subst ho
  exact (pt_cmpR (or_cmp (o := o) (G := G) (ex := ex) S.hK (by have := S.un; omega)) ha hb hm).of fun σ H Q ⟨ρ, η, St, R, h0⟩ => by
    replace h0 : Sat G (fun c d H => Wx c d σ H) ρ St H ((((evalP C ia).1 η St).bind fun x S1 => ((evalP C ib).1 η S1).bind fun y S2 => cmpW C o x y S2).bind fun x S1 => ofO (truthy x S1) S1) _ := h0
    rw [Res.bind_assoc] at h0
    refine rd1 R h0 fun w v ρ1 S1 H1 R1 e1 r1 h1 => ?_
    rw [Res.bind_assoc] at h1
    refine rd1 R1 h1 fun w2 v2 ρ2 S2 H2 R2 e2 r2 h2 => ?_
    rw [cmpW_plain hq, Res.bind_assoc] at h2
    obtain ⟨z, ez, h4⟩ := h2.ofO_bind
    exact ⟨ρ2, S2, w, w2, z, R2.st, r1.mono e2.kp e2.pre, r2, ez, z, rfl, h4.now R2.st⟩
theorem t_chain {o o' : COp} {op op' : CmpOp} (S : Sd G Wx C k X) (ha : PE X a (RE G ex Wx C ia)) (hb : PE X b (RE G ex Wx C ib)) (hc : PE X c (RE G ex Wx C ic)) (hm : lastMarks [op, op'] [b, c] = false := by with_unfolding_all rfl) (ho : op = o.op := by rfl) (ho' : op' = o'.op := by rfl) :
    PT X (.Compare a [op, op'] [b, c] pos) (RT G ex Wx C (.chain o o' ia ib ic)) := by
  subst ho ho'
  have hu : X.A.units + 65 < cLine := by have := S.un; omega
  exact (pt_chain (or_cmp (o := o) (G := G) (ex := ex) S.hK hu) (or_cmp (o := o') (G := G) (ex := ex) S.hK hu) ha hb hc hm).of fun σ H Q ⟨ρ, η, St, R, h0⟩ => by
    replace h0 : Sat G (fun c d H => Wx c d σ H) ρ St H ((((evalP C ia).1 η St).bind fun x S1 => ((evalP C ib).1 η S1).bind fun y S2 => (ofO (cmpD o x y S2) S2).bind fun k S3 =>
      if k = true then ((evalP C ic).1 η S3).bind fun z S4 => (ofO (cmpD o' y z S4) S4).bind fun k' S5 => .ok (W.d (.bl k')) S5 else .ok (.d (.bl false)) S3).bind fun x S1 => ofO (truthy x S1) S1) _ := h0
    rw [Res.bind_assoc] at h0
    refine rd1 R h0 fun w v ρ1 S1 H1 R1 e1 r1 h1 => ?_
    rw [Res.bind_assoc] at h1
    refine rd1 R1 h1 fun w2 v2 ρ2 S2 H2 R2 e2 r2 h2 => ?_
    rw [Res.bind_assoc] at h2
    obtain ⟨z, ez, h4⟩ := h2.ofO_bind
    refine ⟨ρ2, S2, w, w2, z, R2.st, r1.mono e2.kp e2.pre, r2, ez, z, rfl, ?_⟩
    cases z with
    | false => exact ⟨false, rfl, h4.now R2.st⟩
    | true =>
      simp only [if_true] at h4 ⊢
      rw [Res.bind_assoc] at h4
      refine rd1 R2 h4 fun w3 v3 ρ3 S3 H3 R3 e3 r3 h5 => ?_
      rw [Res.bind_assoc] at h5
      obtain ⟨z', ez', h6⟩ := h5.ofO_bind
      exact ⟨ρ3, S3, w2, w3, z', R3.st, r2.mono e3.kp e3.pre, r3, ez', z', rfl, h6.now R3.st⟩
theorem bl_of {β : Type} {w : W} {a b : β} : (match w with | .d .non => a | _ => b) = if (w matches .d .non) then a else b := by
  cases w with
  | d x => cases x <;> rfl
  | _ => rfl
theorem t_isn {kk} (ha : PE X a (RE G ex Wx C ia)) : PT X (.Compare a [.Is] [.Constant .none kk p] pos) (RT G ex Wx C (.isn false ia)) :=
  (pt_cmpR op_isN ha (pe_non (X := X) (j := kk) (pos := p)) rfl).of fun σ H Q ⟨ρ, η, St, R, h0⟩ => by
    replace h0 : Sat G (fun c d H => Wx c d σ H) ρ St H ((((evalP C ia).1 η St).bind fun x S1 => match x with
      | .d .non => .ok (W.d (.bl (!false))) S1
      | _ => .ok (.d (.bl false)) S1).bind fun x S1 => ofO (truthy x S1) S1) _ := h0
    rw [Res.bind_assoc] at h0
    refine rd1 R h0 fun w v ρ1 S1 H1 R1 e1 r1 h1 => ⟨rfl, ?_⟩
    cases r1 with
    | d r1 => cases r1 <;> (simp only [reduceCtorEq, decide_false, decide_true]; exact ⟨_, rfl, h1.now R1.st⟩)
    | _ => simp only [reduceCtorEq, decide_false]; exact ⟨_, rfl, h1.now R1.st⟩
theorem t_isnt {kk} (ha : PE X a (RE G ex Wx C ia)) : PT X (.Compare a [.IsNot] [.Constant .none kk p] pos) (RT G ex Wx C (.isn true ia)) :=
  (pt_cmpR op_notN ha (pe_non (X := X) (j := kk) (pos := p)) rfl).of fun σ H Q ⟨ρ, η, St, R, h0⟩ => by
    replace h0 : Sat G (fun c d H => Wx c d σ H) ρ St H ((((evalP C ia).1 η St).bind fun x S1 => match x with
      | .d .non => .ok (W.d (.bl (!true))) S1
      | _ => .ok (.d (.bl true)) S1).bind fun x S1 => ofO (truthy x S1) S1) _ := h0
    rw [Res.bind_assoc] at h0
    refine rd1 R h0 fun w v ρ1 S1 H1 R1 e1 r1 h1 => ⟨rfl, ?_⟩
    cases r1 with
    | d r1 => cases r1 <;> (simp only [reduceCtorEq, decide_false, decide_true]; exact ⟨_, rfl, h1.now R1.st⟩)
    | _ => simp only [reduceCtorEq, decide_false]; exact ⟨_, rfl, h1.now R1.st⟩
theorem t_not (ha : PT X a (RT G ex Wx C ia)) : PT X (.UnaryOp .Not a pos) (RT G ex Wx C (.not ia)) :=
  (pt_not ha).of fun σ H Q ⟨ρ, η, St, R, h0⟩ => rd1t (f := fun b S1 => .ok (!b) S1) R h0 fun z ρ1 S1 H1 R1 e1 h1 => h1.now R1.st
theorem w_one (h : PT X a (RT G ex Wx C ia)) : PW X (.BoolOp .And [a] pos) (RdT G ex Wx (evalAnd C (.cons ia .nil)).2) := pw_and1 h
theorem w_oneO (h : PT X a (RT G ex Wx C ia)) : PW X (.BoolOp .Or [a] pos) (RdT G ex Wx (evalOr C (.cons ia .nil)).2) := pw_or1 h
theorem _root_.L2.PW.of {X : Cx} {e : Expr} {t t' : TT} (h : PW X e t) (k : ∀ σ H Q, t' σ H Q → t σ H Q) : PW X e t' := ⟨fun whole pins s σ H Q I q => h.run whole pins s σ H Q I (k σ H Q q)⟩
theorem w_and {i2 : IE} {ies : IEs} {rest : List Expr} (ha : PT X a (RT G ex Wx C ia)) (hb : PW X (.BoolOp .And (b :: rest) pos) (RdT G ex Wx (evalAnd C (.cons i2 ies)).2)) :
    PW X (.BoolOp .And (a :: b :: rest) pos) (RdT G ex Wx (evalAnd C (.cons ia (.cons i2 ies))).2) :=
  (pw_and ha hb).of fun σ H Q ⟨ρ, η, St, R, h0⟩ => rd1t (f := fun k S1 => if k = true then (evalAnd C (.cons i2 ies)).2 η S1 else .ok false S1) R h0 fun z ρ1 S1 H1 R1 e1 h1 => by
    cases z with
    | true => exact ⟨ρ1, η, S1, R1, h1⟩
    | false => exact h1.now R1.st
theorem w_or {i2 : IE} {ies : IEs} {rest : List Expr} (ha : PT X a (RT G ex Wx C ia)) (hb : PW X (.BoolOp .Or (b :: rest) pos) (RdT G ex Wx (evalOr C (.cons i2 ies)).2)) :
    PW X (.BoolOp .Or (a :: b :: rest) pos) (RdT G ex Wx (evalOr C (.cons ia (.cons i2 ies))).2) :=
  (pw_or ha hb).of fun σ H Q ⟨ρ, η, St, R, h0⟩ => rd1t (f := fun k S1 => if k = true then .ok true S1 else (evalOr C (.cons i2 ies)).2 η S1) R h0 fun z ρ1 S1 H1 R1 e1 h1 => by
    cases z with
    | false => exact ⟨ρ1, η, S1, R1, h1⟩
    | true => exact h1.now R1.st
theorem t_and {ies : IEs} {es : List Expr} (h : PW X (.BoolOp .And es pos) (RdT G ex Wx (evalAnd C ies).2)) : PT X (.BoolOp .And es pos) (RT G ex Wx C (.and ies)) := h.pt
theorem t_or {ies : IEs} {es : List Expr} (h : PW X (.BoolOp .Or es pos) (RdT G ex Wx (evalOr C ies).2)) : PT X (.BoolOp .Or es pos) (RT G ex Wx C (.or ies)) := h.pt
/-! ### sub, slices, fields -/
theorem e_ix (S : Sd G Wx C k X) (ha : PE X a (RE G ex Wx C ia)) (hb : PE X b (RE G ex Wx C ib)) (hs : PlainIx b := by intro _ _; rfl) : PE X (.Subscript a b pos) (RE G ex Wx C (.ix ia ib)) :=
  (pe_ix (ix_w (G := G) (ex := ex) S.hK) ha hb hs).of fun σ H Q ⟨ρ, η, St, R, h0⟩ => rd1 (f := fun x S1 => ((evalP C ib).1 η S1).bind fun y S2 => ofO (ixD x y S2) S2) R h0 fun w v ρ1 S1 H1 R1 e1 r1 h1 =>
    rd1 R1 h1 fun w2 v2 ρ2 S2 H2 R2 e2 r2 h2 => by
      obtain ⟨z, ez, h3⟩ := h2.ofO
      exact ⟨ρ2, S2, w, w2, z, R2.st, r1.mono e2.kp e2.pre, r2, ez, fun v' r' => h3.now R2.st v' r'⟩
def RdO (G : Wd) (ex : Ex) (Wx : L2.WX) (m : Env → Store → Res (Option Int)) : TO := fun σ H Q => ∃ ρ η S, RelAll G ex ρ η S σ H ∧
  Sat G (fun c d H => Wx c d σ H) ρ S H (m η S) fun o ρ' S' H' => Q o H'
theorem _root_.L2.PO.of {X : Cx} {e : Option Expr} {t t' : TO} (h : PO X e t) (k : ∀ σ H Q, t' σ H Q → t σ H Q) : PO X e t' := ⟨fun pins s σ H Q I q => h.run pins s σ H Q I (k σ H Q q)⟩
theorem o_none : PO X none (RdO G ex Wx (evalO C .no)) := po_none.of fun σ H Q ⟨ρ, η, S, R, h⟩ => (show Sat _ _ _ _ _ (.ok none S) _ from h).now R.st
theorem o_some (h : PE X a (RE G ex Wx C ia)) : PO X (some a) (RdO G ex Wx (evalO C (.yes ia))) :=
  (po_some h).of fun σ H Q ⟨ρ, η, S, R, h0⟩ => rd1 (f := fun w S1 => match w with
    | .d (.int i) => .ok (some i) S1
    | _ => .stk) R h0 fun w v ρ1 S1 H1 R1 e1 r1 h1 => by
      cases r1 with
      | d r1 =>
        cases r1 with
        | int i => exact ⟨i, rfl, h1.now R1.st⟩
        | _ => exact (show False from h1).elim
      | _ => exact (show False from h1).elim
theorem rd1o {m : Env → Store → Res (Option Int)} {ρ : Rho} {S : Store} {H : Hp} {σ : L2.St} {η : Env} {α : Type} {P : α → Rho → Store → Hp → Prop} {f : Option Int → Store → Res α} {Q : Option Int → Hp → Prop} (R : RelAll G ex ρ η S σ H) (h : Sat G (fun c d H => Wx c d σ H) ρ S H ((m η S).bind f) P)
    (k : ∀ b ρ1 S1 H1, RelAll G ex ρ1 η S1 σ H1 → Ext ρ S H ρ1 S1 H1 → Sat G (fun c d H => Wx c d σ H) ρ1 S1 H1 (f b S1) P → Q b H1) : RdO G ex Wx m σ H Q :=
  ⟨ρ, η, S, R, h.bind.mono fun w ρ1 S1 H1 _ _ ⟨e, R1, h1⟩ => k w ρ1 S1 H1 (R.mono e R1) e h1⟩
theorem e_sl {lo hi : Option Expr} {il ih : IO} (S : Sd G Wx C k X) (ha : PE X a (RE G ex Wx C ia)) (hl : PO X lo (RdO G ex Wx (evalO C il))) (hh : PO X hi (RdO G ex Wx (evalO C ih))) : PE X (.Subscript a (.Slice lo hi none p2) pos) (RE G ex Wx C (.sl ia il ih)) :=
  (pe_slice (sl_w (G := G) (ex := ex) S.hK) ha hl hh).of fun σ H Q ⟨ρ, η, St, R, h0⟩ => rd1 (f := fun x S1 => (evalO C il η S1).bind fun l S2 => (evalO C ih η S2).bind fun h S3 => (ofO (slD x l h S3) S3).bind fun z S4 => .ok (W.d z) S4) R h0 fun w v ρ1 S1 H1 R1 e1 r1 h1 =>
    rd1o R1 h1 fun l ρ2 S2 H2 R2 e2 h2 => rd1o R2 h2 fun u ρ3 S3 H3 R3 e3 h3 => by
      obtain ⟨z, ez, h4⟩ := h3.ofO_bind
      exact ⟨ρ3, S3, w, z, R3.st, (r1.mono e2.kp e2.pre).mono e3.kp e3.pre, ez, fun v' H' e' R' r' => h4.after e' R' v' (.d r')⟩
end
end RI
/-! RI9: calls, methods, fields, isinstance. -/
namespace RI
open PySem PySem.Spec PyProof.Rows L2

/-! ### cells let go -/
section
variable {G : Wd} {ρ ρ1 : Rho} {S S1 : Store} {H H1 : Hp} {n : Nat}
theorem live_take (hn : n ≤ S1.length) {t : List Addr} (l : ρ.l.length = n) : ∀ a, Live ρ (S1.take n) a → Live (ρ.app t) S1 a := by
  rintro a (f | ⟨m, c, h1, h2, h3⟩)
  · exact .inl f
  · rw [List.getElem?_take] at h1
    split at h1
    · exact .inr ⟨m, c, h1, h2, pre_get h3⟩
    · cases h1
theorem RelW.trunc {L L' : Addr → Prop} {w : W} {v : V} {t : List Addr} (k : Kp L H L' H) (h : RelW G none L (ρ.app t) H w v) (hb : wBelow ρ.l.length w = true) : RelW G none L' ρ H w v := by
  cases h with
  | d h => exact .d (h.mono k)
  | loc h =>
    refine .loc ?_
    replace h : (ρ.l ++ t)[_]? = some _ := h
    rwa [List.getElem?_append_left (by simpa [wBelow] using hb)] at h
  | scr h => exact .scr h
  | exn h => cases h
theorem RelWs.trunc {L L' : Addr → Prop} {t : List Addr} (k : Kp L H L' H) : ∀ {ws : List W} {vs : List V}, RelWs G none L (ρ.app t) H ws vs → ws.all (wBelow ρ.l.length) = true → RelWs G none L' ρ H ws vs
  | _, _, .nil, _ => .nil
  | _, _, .cons h hs, hb => by
    rw [List.all_cons, Bool.and_eq_true] at hb
    exact .cons (h.trunc k hb.1) (RelWs.trunc k hs hb.2)
theorem RelFw.trunc {L L' : Addr → Prop} {t : List Addr} (k : Kp L H L' H) : ∀ {ws : List (Nat × W)} {vs : List (Str × V)}, RelFw G L (ρ.app t) H ws vs → (ws.all fun p => wBelow ρ.l.length p.2) = true → RelFw G L' ρ H ws vs
  | _, _, .nil, _ => .nil
  | _, _, .cons h hs, hb => by
    rw [List.all_cons, Bool.and_eq_true] at hb
    exact .cons (h.trunc k hb.1) (RelFw.trunc k hs hb.2)
theorem RelC.trunc {L L' : Addr → Prop} {c : Cell} {a : Addr} {t : List Addr} (k : Kp L H L' H) (h : RelC G L (ρ.app t) H c a) (hb : cellBelow ρ.l.length c = true) : RelC G L' ρ H c a := by
  cases h with
  | lst h hs => exact .lst h (hs.mono k)
  | lsw h hs => exact .lsw h (hs.trunc k hb)
  | dct h hs => exact .dct h (hs.mono k)
  | ins h hs => exact .ins h (hs.trunc k hb)
  | dead => exact .dead
theorem kp_take (hn : n ≤ S1.length) {t : List Addr} (l : ρ.l.length = n) : Kp (Live (ρ.app t) S1) H (Live ρ (S1.take n)) H := ⟨fun _ _ h _ => h, fun a h => .inl (live_take hn l a h)⟩
theorem RelS.trunc {t : List Addr} (R : RelS G (ρ.app t) S1 H) (l : ρ.l.length = n) (hn : n ≤ S1.length) (hb : belows n (S1.take n) = true) : RelS G ρ (S1.take n) H := by
  refine ⟨by rw [List.length_take, l]; omega, ?_, fun m c a h1 h2 => ?_, fun a h => R.dom a (List.mem_append_left _ h), fun a f => ⟨(R.res a f).1, fun h => (R.res a f).2 (List.mem_append_left _ h)⟩⟩
  · have := R.nd
    exact (List.nodup_append.mp (show (ρ.l ++ t).Nodup from this)).1
  · have hm := h1
    rw [List.getElem?_take] at h1
    split at h1
    · refine (R.cell m c a h1 (pre_get h2)).trunc (kp_take hn l) ?_
      rw [l]
      exact List.all_eq_true.mp hb c (List.mem_of_getElem? hm)
    · cases h1
theorem Ext.trunc {t : List Addr} (e : Ext ρ S H (ρ.app t) S1 H1) (l : ρ.l.length = n) (hn : n ≤ S1.length) : Ext ρ S H ρ (S1.take n) H1 :=
  ⟨⟨[], by simp⟩, e.keep, fun a h => e.new a (live_take hn l a h), e.dom, e.res⟩
end

section
variable {G : Wd} {Wx : L2.WX} {C : Ctx} {k : Nat} {X : Cx} {pos p p2 apos : Pos} {x : Str} {i : Nat} {a b c e o : Expr} {ia ib ic io : IE} {es : List Expr} {ies : IEs} {t : TA} {fd : FnD}

theorem spF_of {call : List W → Store → Res W} {np : Nat} {ρ : Rho} {S : Store} {H : Hp} {ws : List W} {vs : List V} {Q : VK} {E : XK} (R : RelS G ρ S H) (r : RelWs G none (Live ρ S) ρ H ws vs) (l : ws.length = np)
    (h : Sat G E ρ S H (call ws S) fun w ρ' S' H' => ∀ v, RelW G none (Live ρ' S') ρ' H' w v → Q v H') : spF G call np vs H Q E := ⟨ρ, S, ws, R, r, l, h⟩
theorem e_call (S : Sd G Wx C k X) (hcm : X.calm = true) (hg : Gl X x) (h1 : C.P.fns[i]? = some fd) (hn : fd.name = x) (ht : fd.top = true) (hl : ies.len = fd.np) (ha : PA X (e :: es) (REs G none Wx C ies))
    (hdb : (x == ("__debug__" : Str)) = false := by decide) (he : starEach (e :: es) X.env = (false, eval e X.env) :: starEach es X.env := by rfl) (hpl : (backTo pos (starEach es X.env)).any (·.1) = false := by rfl) :
    PE X (.Call (.Name x p) (e :: es) [] pos) (RE G none Wx C (.call i ies)) := by
  subst hn
  obtain ⟨fdat, ps, hps, F, hb⟩ := (S.fok i fd h1).ex
  refine ⟨fun pins s σ H Q I ⟨ρ, η, St, R, h0⟩ => ?_⟩
  refine wpAny_Call_Name_kw (ld_glob I hg (S.fmg i fd h1 ht) ?_ hdb)
  refine PySem.W.callWith_K (h₀ := X.base) I.ok.mod.kin (S.fok i fd h1).kp (thn (ha.run pos pins s σ H (fun vs H1 => spF G (C.call i) fd.np vs H1 Q (WE Wx σ)) I (rd1n (f := fun ws S1 => C.call i ws S1) R h0 fun ws vs ρ1 S1 H1 R1 e1 r1 l1 h1 => ?_)) fun us s1 ⟨vs, H1, I1, r, q⟩ => ⟨I1.kIn, ?_⟩) he hpl
  · exact spF_of R1.st r1 (by rw [r1.length, l1, hl]) h1
  · exact FnG.call F S.gd ((S.room hcm).mono (Nat.le_succ _)) hb (passAt S.tk σ) I1 r q
/-- a name that holds a def -/
theorem e_callv (S : Sd G Wx C k X) (hcm : X.calm = true) (hN : X.N[i]? = some x) (hv : Vis X.env.scope x) (ha : PA X (e :: es) (REs G none Wx C ies))
    (hdb : (x == ("__debug__" : Str)) = false := by decide) (hcd : (x == ("__classdict__" : Str)) = false := by decide)
    (he : starEach (e :: es) X.env = (false, eval e X.env) :: starEach es X.env := by rfl) (hpl : (backTo pos (starEach es X.env)).any (·.1) = false := by rfl) :
    PE X (.Call (.Name x p) (e :: es) [] pos) (RE G none Wx C (.callv i ies)) := by
  refine ⟨fun pins s σ H Q I ⟨ρ, η, St, R, h0⟩ => ?_⟩
  obtain ⟨w, ew, h1⟩ := Sat.ofO_bind (show Sat _ _ _ _ _ ((ofO (getV η i) St).bind fun w S => match w with
    | .d (.fn f) => match C.P.fns[f]? with
      | some fd => (evalEs C ies η S).bind fun ws S1 => if ws.length = fd.np then C.call f ws S1 else .stk
      | none => .stk
    | _ => .stk) _ from h0)
  obtain ⟨v, e2, r⟩ := R.get ew
  cases r with
  | d r =>
    cases r with
    | fn f =>
      dsimp only at h1
      split at h1
      · next fd hf =>
        refine wpAny_Call_Name_kw (thn ((pe_var (pos := p) hN hv hdb hcd).run pins s σ H (fun v H1 => v = .ref (G.fa f) ∧ H1 = H) I ⟨.ref (G.fa f), e2, rfl, rfl⟩) fun u s1 ⟨v, H1, I1, r1, q1⟩ => ?_)
        obtain ⟨rfl, rfl⟩ := q1
        cases r1
        obtain ⟨fdat, ps, hps, F, hb⟩ := (S.fok f fd hf).ex
        refine PySem.W.callWith_K (h₀ := X.base) I.ok.mod.kin (S.fok f fd hf).kp (thn (ha.run pos pins s1 σ _ (fun vs H1 => spF G (C.call f) fd.np vs H1 Q (WE Wx σ)) I1 (rd1s R h1 fun ws vs ρ1 S1 H1 R1 e1 r1 h2 => ?_)) fun us s2 ⟨vs, H2, I2, r, q⟩ => ⟨I2.kIn, ?_⟩) he hpl
        · split at h2
          · next hl => exact spF_of R1.st r1 hl h2
          · exact h2.elim
        · exact FnG.call F S.gd ((S.room hcm).mono (Nat.le_succ _)) hb (passAt S.tk σ) I2 r q
      · exact h1.elim
    | _ => exact (show False from h1).elim
  | _ => exact (show False from h1).elim
/-- the rest is wanted of the same start -/
theorem Sat.bind0 {W' : XK} {α β : Type} {r : Res α} {f : α → Store → Res β} {ρ : Rho} {S : Store} {H : Hp} {Q : β → Rho → Store → Hp → Prop} (h : Sat G W' ρ S H (r.bind f) Q) : Sat G W' ρ S H r fun a ρ1 S1 H1 => Ext ρ S H ρ1 S1 H1 ∧ RelS G ρ1 S1 H1 ∧ Sat G W' ρ S H (f a S1) Q := by
  cases r with
  | ok a S' => exact fun ρ' H' e R => ⟨e, R, h⟩
  | exc c fs S' => exact h
  | stk => exact h
/-! ### a new object -/
theorem run_makeS {pins : List (Addr × Obj)} {CX : CXT} {Cl f : Addr} {fdt : FuncData} {ps : List Str} {sp : Sp} {E : XK} {σ : L2.St} {H : Hp} {s : Shared} {Q : VK} {us : List Value} {vs : List V} (M : Mk X.K Cl f) (F : FnG X.prog X.w X.K X.mg X.base CX k f fdt ps sp) (gd : X.A.guards = some []) (hr : Room (k + 1) X.A) (hb : Binds X.K fdt ps [])
    (hx : PassesAt CX X σ E) (I : Inv X pins σ H s) (r : Vals vs us)
    (h : ∀ x dx, H x = none → H dx = none → dx ≠ x → sp (.ref x :: vs) (upd (upd H dx (.own x)) x (.ins Cl dx [])) (fun v H2 => v = .non ∧ Q (.ref x) H2) E) :
    wpAny (model X.prog X.w) X.A (PySem.call (.ref Cl) us) (EP X pins σ Q) X.xe s := by
  have hq := h (s.heap.objs.size + 1) s.heap.objs.size (I.hok.fresh (Nat.le_succ _)) (I.hok.fresh (Nat.le_refl _)) (Nat.ne_of_lt (Nat.lt_succ_self _))
  have I2 := Inv.made (C := Cl) I
  have r2 : Vals (V.ref (s.heap.objs.size + 1) :: vs) (Value.ref (s.heap.objs.size + 1) :: us) := .cons rfl r
  have hl : (Value.ref (s.heap.objs.size + 1) :: us ++ []).length = ps.length := by
    have e := r2.length
    rw [F.len _ _ _ _ hq] at e
    rw [List.append_nil]
    exact e.symm
  refine wpAny_call (make_map (f := f) I.kIn M.makes M.init (beq_iff_eq.mp M.fn) (codeAny_mono (F.run _ X.stack _ _ ⟨Value.ref (s.heap.objs.size + 1) :: us, []⟩ (Value.ref (s.heap.objs.size + 1) :: us) _ _ E (gd_make gd) (hr.make Cl us [])
    (I2.env0.make Cl us []) (by have := hb _ (Value.ref (s.heap.objs.size + 1) :: us) I2.kIn hl; rwa [List.append_nil] at this) r2 hq) fun r s' hq' => ?_))
  cases r with
  | error e => exact hx pins _ _ e s' I2 hq'
  | ok fl =>
    cases fl with
    | ret u =>
      obtain ⟨v, H', I3, rv, ev, q3⟩ := I2.after hq'
      subst ev
      exact ⟨rv, ⟨V.ref (s.heap.objs.size + 1), H', I3, rfl, q3⟩⟩
    | next => exact False.elim hq'
    | brk => exact False.elim hq'
    | cont => exact False.elim hq'
theorem RelFw.ds_of {L : Addr → Prop} {ρ : Rho} {H : Hp} {fs : List (Nat × W)} {ds : List (Nat × D)} {vs : List (Str × V)} (h : RelFw G L ρ H fs vs) (e : wsD fs = some ds) : RelFs G L H ds vs := h.ds e
theorem e_mk {cd : ClD} {f : Nat} (S : Sd G Wx C k X) (hcm : X.calm = true) (hg : Gl X x) (h1 : C.P.cls[i]? = some cd) (hi : cd.init = some f) (h2 : C.P.fns[f]? = some fd) (hn : cd.name = x) (hl : ies.len + 1 = fd.np) (ha : PA X (e :: es) (REs G none Wx C ies))
    (hdb : (x == ("__debug__" : Str)) = false := by decide) (he : starEach (e :: es) X.env = (false, eval e X.env) :: starEach es X.env := by rfl) (hpl : (backTo pos (starEach es X.env)).any (·.1) = false := by rfl) :
    PE X (.Call (.Name x p) (e :: es) [] pos) (RE G none Wx C (.mk i ies)) := by
  subst hn
  have M := S.mkf i cd f h1 hi
  obtain ⟨fdat, ps, hps, F, hb⟩ := (S.fok f fd h2).ex
  refine ⟨fun pins s σ H Q I ⟨ρ, η, St, R, h0⟩ => ?_⟩
  refine wpAny_Call_Name_kw (ld_glob I hg (S.cmg i cd h1) ?_ hdb)
  refine PySem.W.callWith_K (h₀ := X.base) I.ok.mod.kin M.kp (thn (ha.run pos pins s σ H (fun vs H1 => ∀ x dx, H1 x = none → H1 dx = none → dx ≠ x → spF G (C.call f) fd.np (.ref x :: vs) (upd (upd H1 dx (.own x)) x (.ins (G.ca i) dx [])) (fun v H2 => v = .non ∧ Q (.ref x) H2) (WE Wx σ)) I
    (rd1n (f := fun ws S1 => mkW C i ws S1) R h0 fun ws vs ρ1 S1 H1 R1 e1 r1 l1 h1' => ?_)) fun us s1 ⟨vs, H1, I1, r, q⟩ => ⟨I1.kIn, ?_⟩) he hpl
  · intro x dx hx hdx hne
    have Rd : RelS G ρ1 S1 (upd H1 dx (.own x)) := R1.st.newObj hdx
    have hx' : upd H1 dx (.own x) x = none := by rw [upd_ne (Ne.symm hne)]; exact hx
    have Rc : RelS G (ρ1.app [x]) (S1 ++ [.ins i []]) (upd (upd H1 dx (.own x)) x (.ins (G.ca i) dx [])) := Rd.newCell hx' (.ins (upd_same ..) .nil)
    have ec : Ext ρ1 S1 H1 (ρ1.app [x]) (S1 ++ [.ins i []]) (upd (upd H1 dx (.own x)) x (.ins (G.ca i) dx [])) := (Ext.newObj hdx).trans (Ext.newCell Rd hx')
    unfold mkW at h1'
    rw [h1] at h1'
    dsimp only at h1'
    rw [hi] at h1'
    dsimp only at h1'
    refine spF_of Rc (.cons (.loc (by rw [← R1.st.len]; exact app_get _ _)) (r1.mono ec.kp ec.pre)) (by rw [List.length_cons, r1.length, l1, hl]) ((h1'.bind0.from ec).mono fun w ρ2 S2 H2 e2 _ ⟨_, R2, h3⟩ v r2 => ?_)
    cases r2 with
    | d r2 =>
      cases r2 with
      | non =>
        refine ⟨rfl, ?_⟩
        dsimp only at h3
        split at h3
        · split at h3
          · next c' fs hc =>
            split at h3
            · next ds hds =>
              split at h3
              · next hcond =>
                obtain ⟨rfl, hbel, hlt⟩ := hcond
                obtain ⟨t, et⟩ := e2.pre
                rw [Rho.app_app] at et
                have ln : ρ1.l.length = S1.length := R1.st.len
                have Rt : RelS G ρ1 (S2.take S1.length) H2 := (et ▸ R2).trunc ln (Nat.le_of_lt hlt) hbel
                have e3 : Ext ρ1 S1 H1 ρ1 (S2.take S1.length) H2 := (et ▸ (ec.trans e2)).trunc ln (Nat.le_of_lt hlt)
                have ha : ρ2.l[S1.length]? = some x := by
                  rw [et, ← ln]
                  show (ρ1.l ++ ([x] ++ t))[ρ1.l.length]? = some x
                  rw [List.getElem?_append_right (Nat.le_refl _)]
                  simp
                have hcell := R2.cell S1.length _ x hc ha
                cases hcell with
                | ins hH hfs =>
                  have kp : Kp (Live ρ2 S2) H2 (Live ρ1 (S2.take S1.length)) H2 := by
                    rw [et]
                    exact kp_take (Nat.le_of_lt hlt) ln
                  have nl : ¬ Live ρ1 (S2.take S1.length) x := by
                    rintro (f0 | ⟨m, c, g1, g2, g3⟩)
                    · exact absurd hx (R1.st.res x f0).1
                    · exact (R1.st.notin hx) (List.mem_of_getElem? g3)
                  exact h3 ρ1 H2 e3 Rt _ (.d (.obj hH nl ((hfs.ds hds).mono kp)))
              · exact h3.elim
            · exact h3.elim
          · exact h3.elim
        · exact h3 ρ2 H2 (ec.trans e2) R2 _ (.loc (by
            obtain ⟨t, et⟩ := e2.pre
            rw [et, ← R1.st.len]
            exact pre_get (app_get _ _)))
      | _ => exact h3.elim
    | _ => exact h3.elim
  · exact run_makeS M F S.gd (S.room hcm) hb (passAt S.tk σ) I1 r q
end
end RI
/-! RI10: built-ins, methods, fields, isinstance, == of objects. -/
namespace RI
open PySem PySem.Spec PyProof.Rows L2
section
variable {G : Wd} {ex : Ex} {Wx : L2.WX} {C : Ctx} {k : Nat} {X : Cx} {pos p p2 apos : Pos} {x : Str} {i : Nat} {a b c e o : Expr} {ia ib ic io ie : IE} {es : List Expr} {ies : IEs} {t : TA} {fd : FnD}

theorem rbi_of {bi : BI} {t : TA} {T : Value} {σ : L2.St} {H : Hp} {Q : VK} (h : RE G ex Wx C (.bi bi ies) σ H Q) : tCB (rBi G ex bi) (REs G ex Wx C ies) σ H Q := by
  obtain ⟨ρ, η, St, R, h0⟩ := h
  refine rd1s (f := fun ws S1 => (ofO (biD bi ws S1) S1).bind fun x S2 => .ok (W.d x) S2) R h0 fun ws vs ρ1 S1 H1 R1 e1 r1 h1 => ?_
  obtain ⟨z, ez, h3⟩ := h1.ofO_bind
  exact ⟨ρ1, S1, ws, z, R1.st, r1, ez, fun v' H' e' R' r' => h3.after e' R' v' (.d r')⟩
theorem e_biB {bi : BI} {id : String} (S : Sd G Wx C k X) (hcm : X.calm = true) (hg : Gl X x) (hb : bi.fn = .builtin id := by rfl) (hv : bootBuiltins x = some (.builtin id) := by rfl) (hm : x ∈ bltNames := by decide) (ha : PA X (e :: es) (REs G ex Wx C ies)) (hn : x ≠ "__name__" := by decide) (hdb : (x == ("__debug__" : Str)) = false := by decide)
    (he : starEach (e :: es) X.env = (false, eval e X.env) :: starEach es X.env := by rfl) (hpl : (backTo pos (starEach es X.env)).any (·.1) = false := by rfl) : PE X (.Call (.Name x p) (e :: es) [] pos) (RE G ex Wx C (.bi bi ies)) :=
  (pe_callB (hb ▸ cr_bi (G := G) (ex := ex) S.hK hcm bi) hg (S.bmg x hm) hv ha hn hdb he hpl).of fun σ H Q h => rbi_of (t := fun _ _ _ => True) (T := .none) h
theorem e_biT {bi : BI} {T : String} (S : Sd G Wx C k X) (hcm : X.calm = true) (hg : Gl X x) (hb : bi.fn = .type T := by rfl) (hv : bootBuiltins x = some (.type T) := by rfl) (hm : x ∈ bltNames := by decide) (ha : PA X (e :: es) (REs G ex Wx C ies)) (hn : x ≠ "__name__" := by decide) (hdb : (x == ("__debug__" : Str)) = false := by decide)
    (he : starEach (e :: es) X.env = (false, eval e X.env) :: starEach es X.env := by rfl) (hpl : (backTo pos (starEach es X.env)).any (·.1) = false := by rfl) : PE X (.Call (.Name x p) (e :: es) [] pos) (RE G ex Wx C (.bi bi ies)) :=
  (pe_callTy (hb ▸ cr_bi (G := G) (ex := ex) S.hK hcm bi) hg (S.bmg x hm) hv ha hn hdb he hpl).of fun σ H Q h => rbi_of (t := fun _ _ _ => True) (T := .none) h
/-! ### methods of built-in types -/
theorem recv_str {m : BM} {ρ : Rho} {S : Store} {H : Hp} {w : W} {v : V} {K : PySem.W.Frag} (hm : m = .join ∨ m = .split) (r : RelW G ex (Live ρ S) ρ H w v) (h : recvOk m w S = true) : tyV K "str" v H := by
  have : ∃ s, w = .d (.str s) := by
    rcases hm with rfl | rfl <;>
    · unfold recvOk at h
      cases w with
      | d x => cases x with
        | str s => exact ⟨s, rfl⟩
        | _ => cases h
      | _ => cases h
  obtain ⟨s, rfl⟩ := this
  cases r with
  | d r => cases r; rfl
theorem recv_list {m : BM} {ρ : Rho} {S : Store} {H : Hp} {w : W} {v : V} {K : PySem.W.Frag} (hm : m ≠ .join ∧ m ≠ .split) (R : RelS G ρ S H) (r : RelW G ex (Live ρ S) ρ H w v) (h : recvOk m w S = true) : tyV K "list" v H := by
  have : ∃ xs, lstOf w S = some xs := by
    unfold recvOk at h
    cases m <;> first | exact absurd rfl hm.1 | exact absurd rfl hm.2 | exact Option.isSome_iff_exists.mp h
  obtain ⟨xs, e⟩ := this
  obtain ⟨a, vs, rfl, ha, _⟩ := r.lstOf R e
  exact .inl ⟨rfl, vs, SqL.of ha⟩
theorem toD_noexc {w : W} {S : Store} {c : Nat} {fs : List (Nat × D)} {S' : Store} (h : toD w S = .exc c fs S') : False := by
  rcases toD_cases w S with ⟨x, S1, e⟩ | e <;> rw [e] at h <;> cases h
theorem bm_noexc {m : BM} {o : W} {ws : List W} {S : Store} {c : Nat} {fs : List (Nat × D)} {S' : Store} (h : bmD m o ws S = .exc c fs S') : False := by
  unfold bmD at h
  split at h
  · split at h
    · unfold Res.bind at h
      split at h
      · dsimp only at h
        split at h
        · split at h <;> cases h
        · cases h
      · next e => exact toD_noexc e
      · cases h
    · cases h
  · split at h
    · split at h <;> cases h
    · cases h
  · split at h
    · split at h
      · split at h <;> cases h
      · cases h
    · cases h
  · split at h
    · split at h <;> cases h
    · cases h
  · split at h
    · split at h <;> cases h
    · cases h
  · split at h
    · split at h <;> cases h
    · cases h
  · split at h <;> cases h
  · cases h
theorem bm_of {m : BM} {T : String} {K : PySem.W.Frag} {σ : L2.St} {H : Hp} {Q : VK} (hT : ∀ (ρ : Rho) S H w v, RelS G ρ S H → RelW G ex (Live ρ S) ρ H w v → recvOk m w S = true → tyV K T v H) (h : RE G ex Wx C (.bm ie m ies) σ H Q) : tBM K T (rBm G ex m) (RE G ex Wx C ie) (REs G ex Wx C ies) σ H Q := by
  obtain ⟨ρ, η, St, R, h0⟩ := h
  refine rd1 (f := fun o S1 => if recvOk m o S1 = true then (evalEs C ies η S1).bind fun ws S2 => bmD m o ws S2 else .stk) R h0 fun w v ρ1 S1 H1 R1 e1 r1 h1 => ?_
  split at h1
  · next hr =>
    refine ⟨hT _ _ _ _ _ R1.st r1 hr, rd1s R1 h1 fun ws vs ρ2 S2 H2 R2 e2 r2 h2 => ?_⟩
    cases hb : bmD m w ws S2 with
    | ok z S3 => exact ⟨ρ2, S2, w, ws, z, S3, R2.st, r1.mono e2.kp e2.pre, r2, hb, fun v' H' e' R' r' => by rw [hb] at h2; exact h2 _ _ e' R' v' r'⟩
    | exc c fs S3 => exact (bm_noexc hb).elim
    | stk => rw [hb] at h2; exact h2.elim
  · exact h1.elim
theorem e_append (S : Sd G Wx C k X) (ho : PE X o (RE G ex Wx C io)) (ha : PA X [e] (REs G ex Wx C ies)) (hbase : attributeBase o "append" X.env (eval o X.env) = eval o X.env := by rfl) (hline : (apos.endLine == pos.line) = true := by rfl)
    (hs : starEach [e] X.env = (false, eval e X.env) :: starEach [] X.env := by rfl) : PE X (.Call (.Attribute o "append" apos) [e] [] pos) (RE G ex Wx C (.bm io .append ies)) :=
  (pe_bm PySem.F.plainAttrs_list PySem.F.slot_list_append PySem.F.type_list_append ((mt_bm (G := G) (ex := ex) S.hK .append).1 rfl) ho ha hbase (by rw [hs]; rfl) hline hs rfl).of fun σ H Q h => bm_of (fun _ _ _ _ _ R r q => recv_list (by decide) R r q) h
theorem e_extend (S : Sd G Wx C k X) (ho : PE X o (RE G ex Wx C io)) (ha : PA X [e] (REs G ex Wx C ies)) (hbase : attributeBase o "extend" X.env (eval o X.env) = eval o X.env := by rfl) (hline : (apos.endLine == pos.line) = true := by rfl)
    (hs : starEach [e] X.env = (false, eval e X.env) :: starEach [] X.env := by rfl) : PE X (.Call (.Attribute o "extend" apos) [e] [] pos) (RE G ex Wx C (.bm io .extend ies)) :=
  (pe_bm PySem.F.plainAttrs_list PySem.F.slot_list_extend PySem.F.type_list_extend ((mt_bm (G := G) (ex := ex) S.hK .extend).2.1 rfl) ho ha hbase (by rw [hs]; rfl) hline hs rfl).of fun σ H Q h => bm_of (fun _ _ _ _ _ R r q => recv_list (by decide) R r q) h
theorem e_pop (S : Sd G Wx C k X) (ho : PE X o (RE G ex Wx C io)) (ha : PA X [e] (REs G ex Wx C ies)) (hbase : attributeBase o "pop" X.env (eval o X.env) = eval o X.env := by rfl) (hline : (apos.endLine == pos.line) = true := by rfl)
    (hs : starEach [e] X.env = (false, eval e X.env) :: starEach [] X.env := by rfl) : PE X (.Call (.Attribute o "pop" apos) [e] [] pos) (RE G ex Wx C (.bm io .pop ies)) :=
  (pe_bm PySem.F.plainAttrs_list PySem.F.slot_list_pop PySem.F.type_list_pop ((mt_bm (G := G) (ex := ex) S.hK .pop).2.2.1 rfl) ho ha hbase (by rw [hs]; rfl) hline hs rfl).of fun σ H Q h => bm_of (fun _ _ _ _ _ R r q => recv_list (by decide) R r q) h
theorem e_join (S : Sd G Wx C k X) (ho : PE X o (RE G ex Wx C io)) (ha : PA X [e] (REs G ex Wx C ies)) (hbase : attributeBase o "join" X.env (eval o X.env) = eval o X.env := by rfl) (hline : (apos.endLine == pos.line) = true := by rfl)
    (hs : starEach [e] X.env = (false, eval e X.env) :: starEach [] X.env := by rfl) : PE X (.Call (.Attribute o "join" apos) [e] [] pos) (RE G ex Wx C (.bm io .join ies)) :=
  (pe_bm PySem.F.plainAttrs_str PySem.F.slot_str_join PySem.F.type_str_join ((mt_bm (G := G) (ex := ex) S.hK .join).2.2.2.1 rfl) ho ha hbase (by rw [hs]; rfl) hline hs rfl).of fun σ H Q h => bm_of (fun _ _ _ _ _ R r q => recv_str (.inl rfl) r q) h
theorem e_split (S : Sd G Wx C k X) (ho : PE X o (RE G ex Wx C io)) (ha : PA X [e] (REs G ex Wx C ies)) (hbase : attributeBase o "split" X.env (eval o X.env) = eval o X.env := by rfl) (hline : (apos.endLine == pos.line) = true := by rfl)
    (hs : starEach [e] X.env = (false, eval e X.env) :: starEach [] X.env := by rfl) : PE X (.Call (.Attribute o "split" apos) [e] [] pos) (RE G ex Wx C (.bm io .split ies)) :=
  (pe_bm PySem.F.plainAttrs_str PySem.F.slot_str_split PySem.F.type_str_split ((mt_bm (G := G) (ex := ex) S.hK .split).2.2.2.2 rfl) ho ha hbase (by rw [hs]; rfl) hline hs rfl).of fun σ H Q h => bm_of (fun _ _ _ _ _ R r q => recv_str (.inr rfl) r q) h
/-! ### fields -/
theorem RelFs.look {L : Addr → Prop} {H : Hp} {f : Nat} (hI : ∀ f g, G.nm f = G.nm g → f = g) : ∀ {fs : List (Nat × D)} {vs : List (Str × V)} {x : D}, RelFs G L H fs vs → lookN f fs = some x → ∃ v, vs.lookup (G.nm f) = some v ∧ RelD G L H x v
  | _, _, _, .nil, h => by cases h
  | _, _, x, .cons (f := g) (v := v) h hs, e => by
    unfold lookN at e
    by_cases q : f = g
    · subst q
      rw [if_pos rfl] at e
      cases e
      exact ⟨v, by simp, h⟩
    · rw [if_neg q] at e
      obtain ⟨u, e1, r1⟩ := RelFs.look hI hs e
      refine ⟨u, ?_, r1⟩
      rw [List.lookup_cons]
      rw [show (G.nm f == G.nm g) = false from by
        rw [beq_eq_false_iff_ne]
        exact fun z => q (hI _ _ z)]
      exact e1
theorem RelFw.look {L : Addr → Prop} {ρ : Rho} {H : Hp} {f : Nat} (hI : ∀ f g, G.nm f = G.nm g → f = g) : ∀ {fs : List (Nat × W)} {vs : List (Str × V)} {x : W}, RelFw G L ρ H fs vs → lookN f fs = some x → ∃ v, vs.lookup (G.nm f) = some v ∧ RelW G none L ρ H x v
  | _, _, _, .nil, h => by cases h
  | _, _, x, .cons (f := g) (v := v) h hs, e => by
    unfold lookN at e
    by_cases q : f = g
    · subst q
      rw [if_pos rfl] at e
      cases e
      exact ⟨v, by simp, h⟩
    · rw [if_neg q] at e
      obtain ⟨u, e1, r1⟩ := RelFw.look hI hs e
      refine ⟨u, ?_, r1⟩
      rw [List.lookup_cons]
      rw [show (G.nm f == G.nm g) = false from by
        rw [beq_eq_false_iff_ne]
        exact fun z => q (hI _ _ z)]
      exact e1
theorem e_fld {f : Nat} {n : Str} (S : Sd G Wx C k X) (hf : C.P.flds.contains f = true) (hn : G.nm f = n) (ho : PE X o (RE G none Wx C io)) (hb : attributeBase o n X.env (eval o X.env) = eval o X.env := by rfl) : PE X (.Attribute o n pos) (RE G none Wx C (.fld io f)) := by
  subst hn
  exact (pe_fld ho hb).of fun σ H Q ⟨ρ, η, St, R, h0⟩ => rd1 (f := fun o S1 => ofO (fldD C.P o f S1) S1) R h0 fun w v ρ1 S1 H1 R1 e1 r1 h1 => by
    obtain ⟨z, ez, h3⟩ := h1.ofO
    have hfm : f ∈ C.P.flds := by simpa using hf
    cases r1 with
    | d r1 =>
      cases r1 with
      | obj hH nl hs =>
        unfold fldD at ez
        dsimp only at ez
        split at ez
        · next oc =>
          rw [Option.map_eq_some_iff] at ez
          obtain ⟨d, ed, rfl⟩ := ez
          obtain ⟨u, eu, ru⟩ := hs.look S.nmI ed
          exact ⟨_, _, _, _, u, rfl, hH, (S.clf _ oc).cls, (S.clf _ oc).na f hfm, eu, h3.now R1.st _ (.d ru)⟩
        · cases ez
      | _ => cases ez
    | loc hl =>
      unfold fldD at ez
      dsimp only at ez
      split at ez
      · next c fs hc =>
        split at ez
        · next oc =>
          have hcell := R1.st.cell _ _ _ hc hl
          cases hcell with
          | ins hH hs =>
            obtain ⟨u, eu, ru⟩ := hs.look S.nmI ez
            exact ⟨_, _, _, _, u, rfl, hH, (S.clf _ oc).cls, (S.clf _ oc).na f hfm, eu, h3.now R1.st _ ru⟩
        · cases ez
      · cases ez
    | scr h => cases ez
    | exn h => cases h
/-! ### isinstance -/
/-- an expression that is a class -/
def TyE (G : Wd) (X : Cx) (e : Expr) (t : Ty) : Prop := ∃ v, ClsV v (tyVal G t) ∧ PE X e (tC v)
theorem ty_b {t : Ty} {n : String} (S : Sd G Wx C k X) (hg : Gl X x) (hv : bootBuiltins x = some (.type n) := by rfl) (ht : tyVal G t = .type n := by rfl) (hm : x ∈ bltNames := by decide) (hn : x ≠ "__name__" := by decide) (hd : (x == ("__debug__" : Str)) = false := by decide) : TyE G X (.Name x pos) t :=
  ⟨.ty n, ht ▸ .ty n, pe_bltn hg (S.bmg x hm) hv rfl hn hd⟩
theorem ty_c {cd : ClD} (S : Sd G Wx C k X) (hg : Gl X x) (h1 : C.P.cls[i]? = some cd) (hn : cd.name = x) (hd : (x == ("__debug__" : Str)) = false := by decide) : TyE G X (.Name x pos) (.cls i) := by
  subst hn
  exact ⟨.ref (G.ca i), .own _, pe_glob hg (S.cmg i cd h1) rfl hd⟩
theorem tyx_of (S : Sd G Wx C k X) {ρ : Rho} {St : Store} {H : Hp} {w : W} {v : V} {t : Ty} (R : RelS G ρ St H) (r : RelW G none (Live ρ St) ρ H w v) (e : tyName w St = some t) (ok : tyOk0 C.P t = true) : TyX X.K H v (tyVal G t) := by
  have hins : ∀ {a dx c vs}, H a = some (.ins (G.ca c) dx vs) → ordC C.P c = true → TyX X.K H (.ref a) (.ref (G.ca c)) := fun h oc => .base (.ins h (S.clf _ oc).cls (S.clf _ oc).ha (S.clf _ oc).hn (S.clf _ oc).htk (S.clf _ oc).hm)
  cases r with
  | d r =>
    cases r with
    | non => cases e; exact .base .non
    | bl b => cases e; exact .base (.bl b)
    | int j => cases e; exact .base (.int j)
    | str s => cases e; exact .base (.str _)
    | tup h hs =>
      cases e
      rcases h with (h | ⟨o, h⟩) | ⟨o, its, n, h1, h2, _⟩
      · exact .base (.tup h)
      · exact .fTuple h
      · exact .kTuple (o := o) (by rw [S.hK]; exact h1) h2
    | lst h nl hs => cases e; exact .base (.lst h)
    | dic h nl hs => cases e; exact .base (.dK h)
    | obj h nl hs => cases e; exact hins h ok
    | fn f => cases e
  | loc hl =>
    unfold tyName at e
    dsimp only at e
    split at e
    · next hc => cases e; cases R.cell _ _ _ hc hl with | lst h hs => exact .base (.lst h)
    · next hc => cases e; cases R.cell _ _ _ hc hl with | lsw h hs => exact .base (.lst h)
    · next hc => cases e; cases R.cell _ _ _ hc hl with | dct h f => exact .base (.dK h)
    · next hc => cases e; cases R.cell _ _ _ hc hl with | ins h hs => exact hins h ok
    · cases e
  | scr h =>
    cases e
    rcases h with ⟨o, h⟩ | ⟨o, its, n, h1, h2, _⟩
    · exact .base (.frz h)
    · exact .kList (o := o) (by rw [S.hK]; exact h1) h2
  | exn h => cases h
theorem isiOk_none {L : Addr → Prop} {P : Prog} {ρ : Rho} {H : Hp} {w : W} {v : V} {t : Ty} (r : RelW G none L ρ H w v) (ok : isiOk P w t = true) : tyOk0 P t = true := by
  cases r with
  | exn h => cases h
  | _ => exact ok
theorem isi_ev {ts : List Ty} {σ : L2.St} {H : Hp} {Q : VK} (S : Sd G Wx C k X) (h : RE G none Wx C (.isi ie ts) σ H Q) (R : V → Hp → Prop)
    (hk : ∀ v H1 t, TyX X.K H1 v (tyVal G t) → tyOk0 C.P t = true → Q (.bl (ts.any fun u => tyIs C.P t u)) H1 → R v H1) : RE G none Wx C ie σ H R := by
  obtain ⟨ρ, η, St, R, h0⟩ := h
  refine rd1 (f := fun x S1 => (ofO (tyName x S1) S1).bind fun t S2 => if isiOk C.P x t = true then .ok (W.d (.bl (ts.any fun u => tyIs C.P t u))) S2 else .stk) R h0 fun w v ρ1 S1 H1 R1 e1 r1 h1 => ?_
  obtain ⟨z, ez, h3⟩ := h1.ofO_bind
  split at h3
  · next ok =>
    have ok := isiOk_none r1 ok
    exact hk v H1 z (tyx_of S R1.st r1 ez ok) ok (h3.now R1.st _ (.d (.bl _)))
  · exact h3.elim
theorem e_isi {t : Ty} (S : Sd G Wx C k X) (hg : Gl X "isinstance") (he : PE X e (RE G none Wx C ie)) (ht : TyE G X c t) (hok : tyOk C.P t = true := by rfl)
    (h1 : starEach [e, c] X.env = (false, eval e X.env) :: starEach [c] X.env := by rfl) (h2 : starEach [c] X.env = (false, eval c X.env) :: starEach [] X.env := by rfl) (hpl : (backTo pos (starEach [c] X.env)).any (·.1) = false := by rfl) :
    PE X (.Call (.Name "isinstance" p) [e, c] [] pos) (RE G none Wx C (.isi ie [t])) := by
  obtain ⟨v, hv, hc⟩ := ht
  refine (pe_callB call_isi hg (S.bmg _ (by decide)) (by rfl) (pa_cons he (pa_cons hc pa_nil h2) h1) (by decide) (by decide) h1 hpl).of fun σ H Q h => ?_
  refine isi_ev S h _ fun x H1 tx hx ok q => ⟨x, v, tyVal G tx, tyVal G t, tyIs C.P tx t, rfl, hv, hx, S.kit _ _ ok hok, ?_⟩
  simpa using q
theorem kit_any (S : Sd G Wx C k X) {t : Ty} (ok : tyOk0 C.P t = true) : ∀ ts : List Ty, ts.all (tyOk C.P) = true → PySem.W.kitAny X.K (tyVal G t) (ts.map (tyVal G)) = some (ts.any fun u => tyIs C.P t u)
  | [], _ => kitAny_nil
  | u :: us, h => by
    rw [List.all_cons, Bool.and_eq_true] at h
    refine kitAny_cons (S.kit t u ok h.1) (fun e => ?_) (fun e => ?_)
    · rw [List.any_cons, e, Bool.false_or]; exact kit_any S ok us h.2
    · rw [List.any_cons, e, Bool.true_or]
/-- several classes -/
inductive TyEs (G : Wd) (X : Cx) : List Expr → List Ty → Prop where
  | nil : TyEs G X [] []
  | cons {e : Expr} {t : Ty} {es : List Expr} {ts : List Ty} (h : TyE G X e t) (hs : TyEs G X es ts) (h1 : starEach (e :: es) X.env = (false, eval e X.env) :: starEach es X.env := by rfl) : TyEs G X (e :: es) (t :: ts)
theorem TyEs.pa {es : List Expr} {ts : List Ty} (h : TyEs G X es ts) : ∃ vs, Paired ClsV vs (ts.map (tyVal G)) ∧ vs.length = ts.length ∧ PA X es (fun _ H Q => Q vs H) := by
  induction h with
  | nil => exact ⟨[], .nil, rfl, pa_nil⟩
  | cons h hs h1 ih =>
    obtain ⟨vs, p, l, q⟩ := ih
    obtain ⟨v, hv, hc⟩ := h
    exact ⟨v :: vs, .cons hv p, by simp [l], (pa_cons hc q h1)⟩
theorem e_isiT {ts : List Ty} {cs : List Expr} {kk} (S : Sd G Wx C k X) (hg : Gl X "isinstance") (he : PE X e (RE G none Wx C ie)) (ht : TyEs G X cs ts) (hok : ts.all (tyOk C.P) = true := by rfl) (hl : ts.length ≤ 100 := by decide)
    (h1 : starEach [e, .Tuple cs kk p2] X.env = (false, eval e X.env) :: starEach [.Tuple cs kk p2] X.env := by rfl) (h2 : starEach [.Tuple cs kk p2] X.env = (false, eval (.Tuple cs kk p2) X.env) :: starEach [] X.env := by rfl) (hpl : (backTo pos (starEach [.Tuple cs kk p2] X.env)).any (·.1) = false := by rfl) :
    PE X (.Call (.Name "isinstance" p) [e, .Tuple cs kk p2] [] pos) (RE G none Wx C (.isi ie ts)) := by
  obtain ⟨vs, pv, l, hc⟩ := ht.pa
  refine (pe_callB call_isiT hg (S.bmg _ (by decide)) (by rfl) (pa_cons he (pa_cons (pe_tup hc) pa_nil h2) h1) (by decide) (by decide) h1 hpl).of fun σ H Q h => ?_
  obtain ⟨ρ, η, St, R, h0⟩ := h
  refine rd1 (f := fun x S1 => (ofO (tyName x S1) S1).bind fun t S2 => if isiOk C.P x t = true then .ok (W.d (.bl (ts.any fun u => tyIs C.P t u))) S2 else .stk) R h0 fun w v ρ1 S1 H1 R1 e1 r1 h1 => ?_
  obtain ⟨z, ez, h3⟩ := h1.ofO_bind
  split at h3
  · next ok =>
    have ok := isiOk_none r1 ok
    refine ⟨by rw [l]; exact Nat.le_trans hl (by decide), fun q hq => ?_⟩
    have Rn := R1.st.newObj (o := .tup vs) hq
    exact ⟨v, q, vs, tyVal G z, ts.map (tyVal G), _, rfl, upd_same .., pv, tyx_of S Rn (r1.mono (Ext.newObj hq).kp ⟨[], by simp⟩) ez ok, kit_any S ok ts hok, h3.after (Ext.newObj hq) Rn _ (.d (.bl _))⟩
  · exact h3.elim
end
end RI
/-! RI11: == and != of objects of the text's own classes. -/
namespace RI
open PySem PySem.Spec PyProof.Rows L2
section
variable {M : Model} {prog : Program} {w : World} {A : Around} {E : Value → Shared → Prop} {s : Shared} {K : PySem.W.Frag} {x y C f L : Addr} {ox : Obj} {od : Option Obj} {h₀ : Heap} {m : Str → Option Value}
open Builtin in
theorem ne_entry {Q : Fin → Shared → Prop} (hu : A.units < cLine) (X : K.In s.heap) (I : PySem.W.InstAt s.heap x ox C od) (hs : PySem.W.findIn K (.ref C) "__eq__" = some (some (.ref f))) (hf : PySem.W.isFn K (.ref f) = true)
    (hcall : wpAny (model prog w) A (PySem.call (.ref f) [.ref x, .ref y]) (fun v s' => ∃ b, v = .bool b ∧ Q (.done (.ret (.bool (!b)))) s') E s) :
    wpAny (model prog w) A (Builtin.«object.__ne__» ⟨[.ref x, .ref y], []⟩) Q E s := by
  unfold Builtin.«object.__ne__»
  repeat (first
    | with_reducible refine wpAny_cRoomFor hu ?_
    | (refine wpAny_bind (m := callSpecialIfBound? (.ref x) (Str.ofString "__eq__") [.ref y])
        (PySem.W.ifBound_K X I hs hf (wpAny_mono hcall (fun r s' hr => by
          obtain ⟨b, rfl, hq⟩ := hr
          repeat (first | exact hq | exact wpAny_pure hq | exact wpAny_truthy_bool hq | (refine wpAny_bind (m := PySem.truthy (.bool _)) (wpAny_truthy_bool ?_)) | wp_step)) fun _ _ e => e)))
    | wp_step)
theorem ifBound_ne {args : List Value} {Q : Option Value → Shared → Prop} (X : K.In s.heap) (I : PySem.W.InstAt s.heap x ox C od) (hs : PySem.W.findIn K (.ref C) "__ne__" = some (some (.builtin "object.__ne__")))
    (h : wpAny M A (PySem.call (.builtin "object.__ne__") (.ref x :: args)) (fun v => Q (some v)) E s) : wpAny M A (callSpecialIfBound? (.ref x) "__ne__" args) Q E s := by
  simp only [callSpecialIfBound?, bindSpecialIfBound?]
  refine wpAny_holding (wpAny_bind (wpAny_bind (wpAny_bind (I.type.here ((PySem.W.looks_findIn X hs).here ?_)))))
  refine wpAny_bind (wpAny_askSetting (wpAny_ite ?_))
  have fin : wpAny M A (PySem.call (.builtin "object.__ne__") ([.ref x] ++ args) >>= fun v => pure (some v)) Q E s := wpAny_bind (wpAny_mono h (fun v s' h' => wpAny_pure h') fun _ _ h' => h')
  split
  · exact wpAny_bind (wpAny_of_eq (F.cmp_object.ne.bind _) (wpAny_pure (by exact fin)))
  · exact wpAny_tryCatch (wpAny_bind (wpAny_of_eq (F.cmp_object.ne.bind _) (wpAny_pure (by exact fin))))
theorem ne_K {Q : Value → Shared → Prop} {oy : Obj} {oyd : Option Obj} (hu : A.units + 1 < cLine) (X : K.In s.heap) (I : PySem.W.InstAt s.heap x ox C od) (J : PySem.W.InstAt s.heap y oy C oyd) (hm : PySem.W.mroIn K C (.type "object") = some true)
    (hne : PySem.W.findIn K (.ref C) "__ne__" = some (some (.builtin "object.__ne__"))) (hs : PySem.W.findIn K (.ref C) "__eq__" = some (some (.ref f))) (hf : PySem.W.isFn K (.ref f) = true)
    (hcall : wpAny (model prog w) A.in1 (PySem.call (.ref f) [.ref x, .ref y]) (fun v s' => ∃ b, v = .bool b ∧ Q (.bool (!b)) s') E s) : wpAny (model prog w) A (richCompare .NotEq (.ref x) (.ref y)) Q E s := by
  have one : wpAny (model prog w) A (tryCompare (.ref x) "__ne__" (.ref y)) (fun r s' => ∃ v, r = some v ∧ Q v s') E s := by
    unfold tryCompare
    refine wpAny_bind (ifBound_ne X I hne (wpAny_call (codeAny_call_builtin F.cmp_object.ne.plain F.cmpEntry_ne (PySem.W.check_slot F.cmpKind_ne F.cmpSplit_ne (I.type.andThen (PySem.W.looks_mroIn X hm)) (F.cmpArgs_ne _ _)
      (ne_entry (A := A.in1) hu X I hs hf (wpAny_mono hcall (fun v s' hv => ?_) fun _ _ e => e))))))
    obtain ⟨b, rfl, hq⟩ := hv
    first | exact ⟨b, rfl, wpAny_pure ⟨_, rfl, hq⟩⟩ | exact ⟨b, rfl, wpAny_pure (wpAny_pure ⟨_, rfl, hq⟩)⟩ | exact ⟨b, rfl, ⟨_, rfl, hq⟩⟩
  unfold richCompare
  simp only [oneThing_ref]
  rw [cmpInfo_NotEq]
  dsimp only
  refine wpAny_holding (wpAny_bind (wpAny_cRoomFor (Nat.lt_of_succ_lt hu) ?_))
  refine wpAny_bind (I.type.here (wpAny_bind (J.type.here ?_)))
  rw [show (Value.ref C != Value.ref C) = false from by simp]
  simp only [Bool.false_eq_true, if_false]
  refine wpAny_bind (wpAny_pure ?_)
  simp only [Bool.false_eq_true, if_false]
  refine wpAny_bind (wpAny_mono one (fun r s' z => ?_) fun _ _ e => e)
  obtain ⟨v, rfl, hq⟩ := z
  exact wpAny_pure hq
end
section
variable {G : Wd} {Wx : L2.WX} {C : Ctx} {k : Nat} {X : Cx} {pos p p2 apos : Pos} {x : Str} {i : Nat} {a b c e : Expr} {ia ib : IE} {o : COp}
theorem run_at {A : Around} {fd : FuncData} {f : Addr} {ps : List Str} {sp : Sp} {pins : List (Addr × Obj)} {σ : L2.St} {H : Hp} {s : Shared} {Q : VK} {us : List Value} {vs : List V} {E : Value → Shared → Prop} (F : FnG X.prog X.w X.K X.mg X.base (L2.CX X.prog X.w) k f fd ps sp) (gd : A.guards = some []) (hr : Room k A) (fr : A.frames = X.A.frames) (hb : Binds X.K fd ps [])
    (I : Inv X pins σ H s) (r : Vals vs us) (h : sp vs H Q (fun _ _ _ => False)) : wpAny (model X.prog X.w) A (PySem.call (.ref f) us) (EP X pins σ Q) E s := by
  have hl := F.len _ _ _ _ h
  have e0 : Env0 X.prog X.w X.K X.mg X.base A X.stack s H := by
    have e := I.env0
    exact ⟨by rw [fr]; exact e.frames, e.mod, e.bs, e.bsz, e.funs, e.frf, e.hok, e.bare⟩
  refine wpAny_call (codeAny_mono (F.run A X.stack s H ⟨us, []⟩ us vs _ _ gd hr e0 (by
    have := hb s us I.kIn (by rw [List.append_nil, ← r.length]; exact hl)
    simpa using this) r h) fun r s' hq => ?_)
  cases r with
  | error e =>
    obtain ⟨a, B, H', cls, d, h1⟩ := hq
    exact (h1.2.2.2.2.2.2.2).elim
  | ok fl =>
    cases fl with
    | ret w => exact I.after hq
    | next => exact False.elim hq
    | brk => exact False.elim hq
    | cont => exact False.elim hq
theorem clsOf_ins {ρ : Rho} {S : Store} {H : Hp} {w : W} {v : V} {c : Nat} (R : RelS G ρ S H) (r : RelW G none (Live ρ S) ρ H w v) (e : clsOf w S = some c) : ∃ a dx vs, v = .ref a ∧ H a = some (.ins (G.ca c) dx vs) := by
  cases r with
  | d r =>
    cases r with
    | obj h nl hs => cases e; exact ⟨_, _, _, rfl, h⟩
    | _ => cases e
  | loc hl =>
    unfold clsOf at e
    dsimp only at e
    split at e
    · next hc => cases e; cases R.cell _ _ _ hc hl with | ins h hs => exact ⟨_, _, _, rfl, h⟩
    · cases e
  | scr h => cases e
  | exn h => cases h
theorem Sat.quiet {α : Type} {ρ : Rho} {S : Store} {H : Hp} {W1 W2 : XK} {r : Res α} {P : α → Rho → Store → Hp → Prop} (n : ∀ c fs S', r ≠ .exc c fs S') (h : Sat G W1 ρ S H r P) : Sat G W2 ρ S H r P := by
  cases r with
  | ok a S' => exact h
  | exc c fs S' => exact (n c fs S' rfl).elim
  | stk => exact h
theorem Sat.calm_bind {α β : Type} {ρ : Rho} {S : Store} {H : Hp} {W1 W2 : XK} {r : Res α} {f : α → Store → Res β} {P : β → Rho → Store → Hp → Prop} (h : Sat G W1 ρ S H ((noExc r).bind f) P) :
    Sat G W2 ρ S H r fun a ρ1 S1 H1 => Ext ρ S H ρ1 S1 H1 ∧ RelS G ρ1 S1 H1 ∧ Sat G W1 ρ1 S1 H1 (f a S1) P := by
  cases r with
  | ok a S' => exact fun ρ' H' e R => ⟨e, R, Sat.from e h⟩
  | exc c fs S' => exact h.elim
  | stk => exact h
def rEqW (G : Wd) (C : Ctx) (o : COp) : R2 := fun x y H Q => ∃ ρ S a b, RelS G ρ S H ∧ RelW G none (Live ρ S) ρ H a x ∧ RelW G none (Live ρ S) ρ H b y ∧
  Sat G (fun _ _ _ => False) ρ S H (cmpW C o a b S) fun w ρ' S' H' => ∀ v, RelW G none (Live ρ' S') ρ' H' w v → Q v H'
theorem cmpW_noexc {a b : W} {S : Store} : ∀ c fs S', cmpW C o a b S ≠ .exc c fs S' := by
  intro c fs S' h
  have h1 : ∀ (q : Option Bool) (g : Bool → D), ((ofO q S).bind fun k S1 => Res.ok (W.d (g k)) S1) ≠ .exc c fs S' := by
    intro q g; cases q <;> (intro z; cases z)
  have h2 : ∀ (r : Res W) (g : Bool → D), ((noExc r).bind fun w S1 => match w with
      | .d (.bl k) => Res.ok (W.d (g k)) S1
      | _ => .stk) ≠ .exc c fs S' := by
    intro r g
    cases r with
    | ok w S1 =>
      rw [noExc_ok, Res.bind_ok]
      split <;> (intro z; cases z)
    | exc _ _ _ => intro z; cases z
    | stk => intro z; cases z
  cases o with
  | eq =>
    unfold cmpW at h
    dsimp only at h
    split at h
    · exact h2 _ .bl h
    · exact h1 _ .bl h
  | ne =>
    unfold cmpW at h
    dsimp only at h
    split at h
    · exact h2 _ (fun k => .bl (!k)) h
    · exact h1 _ .bl h
  | _ => exact h1 _ .bl h
theorem or_eqP (S : Sd G Wx C k X) (hcm : X.calm = true) {pins : List (Addr × Obj)} {s : Shared} {σ : L2.St} {H : Hp} {x y : V} {v u : Value} {Q : VK} (I : Inv X pins σ H s) (rx : RelV x v) (ry : RelV y u) {ρ : Rho} {St : Store} {wa wb : W} {f : Nat} (R : RelS G ρ St H) (ra : RelW G none (Live ρ St) ρ H wa x) (rb : RelW G none (Live ρ St) ρ H wb y)
    (hq : ownEq C wa St = some f) (hb : (∃ ts, wb = .d (.tup ts)) ∨ wb = .d .non) (h : Sat G (fun _ _ _ => False) ρ St H ((noExc (C.call f [wa, wb] St)).bind fun w S1 => match w with
      | .d (.bl k) => Res.ok (W.d (.bl k)) S1
      | _ => .stk) fun w ρ' S' H' => ∀ v, RelW G none (Live ρ' S') ρ' H' w v → Q v H') : wpAny (model X.prog X.w) X.A (richCompare .Eq v u) (EP X pins σ Q) X.xe s := by
  unfold ownEq at hq
  split at hq
  · next c ec =>
    split at hq
    · next d hd =>
      obtain ⟨a, dx, vs, rfl, ha⟩ := clsOf_ins R ra ec
      obtain ⟨EF, fd, hfd, hnp⟩ := S.eqm c d f hd hq
      obtain ⟨fdat, ps, hps, F, hbd⟩ := (S.fok f fd hfd).ex
      cases rx
      obtain ⟨mA, J, _⟩ := ins_get I.hok ha
      obtain ⟨od, J, _⟩ := J.look
      obtain ⟨m, hF⟩ := I.fr
      have r2 : Vals [V.ref a, y] [Value.ref a, u] := .cons rfl (.cons ry .nil)
      have ht : ∃ t, PySem.W.subIn X.K t (.ref (G.ca c)) = some false ∧ PySem.W.Looks (model X.prog X.w) s.heap (typeOf u) t := by
        rcases hb with ⟨ts, rfl⟩ | rfl
        · have tx := tyx_of S (t := .tuple) R rb rfl rfl
          obtain ⟨Pq, Z, hp, _⟩ := kit_of I ry tx
          exact ⟨_, EF.sT, Z.ty _ _ I.kIn hp⟩
        · have tx := tyx_of S (t := .none) R rb rfl rfl
          obtain ⟨Pq, Z, hp, _⟩ := kit_of I ry tx
          exact ⟨_, EF.sN, Z.ty _ _ I.kIn hp⟩
      obtain ⟨t, hs, hl⟩ := ht
      refine PySem.W.cmp_K (op := .Eq) (tb := t) (S.room hcm).units0 hF I.ok.mod.kin J hl (by simp [PySem.W.notFirst, hs]) EF.eq EF.fn ?_
      refine wpAny_mono (run_at F S.gd ((S.room hcm).mono (Nat.le_succ _)) rfl hbd I r2 (Q := fun v H' => ∃ kb, v = .bl kb ∧ Q (.bl kb) H') ⟨ρ, St, [wa, wb], R, .cons ra (.cons rb .nil), by rw [hnp]; rfl, h.calm_bind.mono fun w ρ1 S1 H1 e1 R1 ⟨_, _, h3⟩ v rv => ?_⟩) (fun r s' z => ?_) (fun _ _ q => q)
      · cases rv with
        | d rv =>
          cases rv with
          | bl kb => exact ⟨kb, rfl, h3.now R1 _ (.d (.bl kb))⟩
          | _ => exact h3.elim
        | _ => exact h3.elim
      · obtain ⟨v, H', I', rv, kb, rfl, q⟩ := z
        cases rv
        exact ⟨.bl kb, H', I', rfl, q⟩
    · cases hq
  · cases hq
theorem or_eqW (S : Sd G Wx C k X) (hcm : X.calm = true) (ho : o = .eq ∨ o = .ne) : OpR X (compareOp o.op) (rEqW G C o) := by
  intro pins s σ H x y v u Q I rx ry ⟨ρ, St, wa, wb, R, ra, rb, h⟩
  cases hq : eqOwn C wa wb St with
  | none =>
    by_cases hp : o = .eq ∧ ∃ f, eqOwnE C wa wb St = some f
    · obtain ⟨rfl, f, hf⟩ := hp
      have h0 := h
      unfold cmpW at h0
      dsimp only at h0
      rw [hf] at h0
      dsimp only at h0
      have h2 : ownEq C wa St = some f ∧ ((∃ ts, wb = .d (.tup ts)) ∨ wb = .d .non) := by
        unfold eqOwnE at hf
        rw [hq] at hf
        dsimp only at hf
        split at hf
        · exact ⟨hf, .inl ⟨_, rfl⟩⟩
        · exact ⟨hf, .inr rfl⟩
        · cases hf
      exact or_eqP S hcm I rx ry R ra rb h2.1 h2.2 h0
    have e : cmpW C o wa wb St = (ofO (cmpD o wa wb St) St).bind fun k S1 => .ok (.d (.bl k)) S1 := by
      rcases ho with rfl | rfl
      · have hn : eqOwnE C wa wb St = none := by
          cases h3 : eqOwnE C wa wb St with
          | none => rfl
          | some f => exact absurd ⟨rfl, f, h3⟩ hp
        unfold cmpW; dsimp only; rw [hn]
      · unfold cmpW; dsimp only; rw [hq]
    rw [e] at h
    obtain ⟨z, ez, h4⟩ := h.ofO_bind
    exact or_cmp (o := o) (G := G) (ex := none) S.hK (by have := S.un; omega) pins s σ H x y v u Q I rx ry ⟨ρ, St, wa, wb, z, R, ra, rb, ez, h4.now R _ (.d (.bl z))⟩
  | some f =>
    have hq' := hq
    have hqE : eqOwnE C wa wb St = some f := by unfold eqOwnE; rw [hq]
    unfold eqOwn at hq
    split at hq
    · next c c' ec ec' =>
      split at hq
      · next e =>
        subst e
        split at hq
        · next d hd =>
          obtain ⟨a, dx, vs, rfl, ha⟩ := clsOf_ins R ra ec
          obtain ⟨b, dy, us, rfl, hb⟩ := clsOf_ins R rb ec'
          obtain ⟨EF, fd, hfd, hnp⟩ := S.eqm c d f hd hq
          obtain ⟨fdat, ps, hps, F, hbd⟩ := (S.fok f fd hfd).ex
          cases rx
          cases ry
          obtain ⟨mA, J, _⟩ := ins_get I.hok ha
          obtain ⟨mB, J', _⟩ := ins_get I.hok hb
          obtain ⟨od, J, _⟩ := J.look
          obtain ⟨od', J', _⟩ := J'.look
          obtain ⟨m, hF⟩ := I.fr
          have r2 : Vals [V.ref a, V.ref b] [Value.ref a, Value.ref b] := .cons rfl (.cons rfl .nil)
          rcases ho with rfl | rfl
          · unfold cmpW at h
            dsimp only at h
            rw [hqE] at h
            dsimp only at h
            show wpAny (model X.prog X.w) X.A (richCompare .Eq (.ref a) (.ref b)) _ X.xe s
            refine PySem.W.cmp_K (op := .Eq) (tb := .ref (G.ca c)) (S.room hcm).units0 hF I.ok.mod.kin J J'.type (by simp [PySem.W.notFirst]) EF.eq EF.fn ?_
            refine wpAny_mono (run_at F S.gd ((S.room hcm).mono (Nat.le_succ _)) rfl hbd I r2 (Q := fun v H' => ∃ kb, v = .bl kb ∧ Q (.bl kb) H') ⟨ρ, St, [wa, wb], R, .cons ra (.cons rb .nil), by rw [hnp]; rfl, h.calm_bind.mono fun w ρ1 S1 H1 e1 R1 ⟨_, _, h3⟩ v rv => ?_⟩) (fun r s' z => ?_) (fun _ _ q => q)
            · cases rv with
              | d rv =>
                cases rv with
                | bl kb => exact ⟨kb, rfl, h3.now R1 _ (.d (.bl kb))⟩
                | _ => exact h3.elim
              | _ => exact h3.elim
            · obtain ⟨v, H', I', rv, kb, rfl, q⟩ := z
              cases rv
              exact ⟨.bl kb, H', I', rfl, q⟩
          · unfold cmpW at h
            dsimp only at h
            rw [hq'] at h
            dsimp only at h
            show wpAny (model X.prog X.w) X.A (richCompare .NotEq (.ref a) (.ref b)) _ X.xe s
            refine ne_K (by have := S.un; omega) I.kIn J J' EF.hm EF.ne EF.eq EF.fn ?_
            refine wpAny_mono (run_at F (gd_in1 S.gd) (S.room hcm).in1 rfl hbd I r2 (Q := fun v H' => ∃ kb, v = .bl kb ∧ Q (.bl (!kb)) H') ⟨ρ, St, [wa, wb], R, .cons ra (.cons rb .nil), by rw [hnp]; rfl, h.calm_bind.mono fun w ρ1 S1 H1 e1 R1 ⟨_, _, h3⟩ v rv => ?_⟩) (fun r s' z => ?_) (fun _ _ q => q)
            · cases rv with
              | d rv =>
                cases rv with
                | bl kb => exact ⟨kb, rfl, h3.now R1 _ (.d (.bl (!kb)))⟩
                | _ => exact h3.elim
              | _ => exact h3.elim
            · obtain ⟨v, H', I', rv, kb, rfl, q⟩ := z
              cases rv
              exact ⟨kb, rfl, .bl (!kb), H', I', rfl, q⟩
        · cases hq
      · cases hq
    · cases hq
theorem cmpW_bl {a b w : W} {S S' : Store} (h : cmpW C o a b S = .ok w S') : ∃ k, w = .d (.bl k) := by
  have h1 : ∀ (q : Option Bool), ((ofO q S).bind fun k S1 => Res.ok (W.d (.bl k)) S1) = .ok w S' → ∃ k, w = .d (.bl k) := by
    intro q z
    cases q with
    | none => cases z
    | some k => cases z; exact ⟨k, rfl⟩
  have h2 : ∀ (r : Res W) (g : Bool → Bool), ((noExc r).bind fun w S1 => match w with
      | .d (.bl k) => Res.ok (W.d (.bl (g k))) S1
      | _ => .stk) = .ok w S' → ∃ k, w = .d (.bl k) := by
    intro r g z
    cases r with
    | ok w S1 =>
      rw [noExc_ok, Res.bind_ok] at z
      split at z
      · cases z; exact ⟨_, rfl⟩
      · cases z
    | exc _ _ _ => cases z
    | stk => cases z
  cases o with
  | eq =>
    unfold cmpW at h
    dsimp only at h
    split at h
    · exact h2 _ id h
    · exact h1 _ h
  | ne =>
    unfold cmpW at h
    dsimp only at h
    split at h
    · exact h2 _ (fun k => !k) h
    · exact h1 _ h
  | _ => exact h1 _ h
theorem Sat.and {α : Type} {ρ : Rho} {S : Store} {H : Hp} {W1 : XK} {r : Res α} {P : α → Rho → Store → Hp → Prop} {φ : α → Prop} (n : ∀ a S', r = .ok a S' → φ a) (h : Sat G W1 ρ S H r P) : Sat G W1 ρ S H r fun a ρ' S' H' => φ a ∧ P a ρ' S' H' := by
  cases r with
  | ok a S' => exact fun ρ' H' e R => ⟨n a S' rfl, h ρ' H' e R⟩
  | exc c fs S' => exact h
  | stk => exact h
/-- == and !=, of objects too -/
theorem e_eq {op : CmpOp} (S : Sd G Wx C k X) (hcm : X.calm = true) (ha : PE X a (RE G none Wx C ia)) (hb : PE X b (RE G none Wx C ib)) (hq : o = .eq ∨ o = .ne := by decide) (hm : behindInMarks op b = false := by with_unfolding_all rfl) (ho : op = o.op := by rfl) :
    PE X (.Compare a [op] [b] pos) (RE G none Wx C (.cmp o ia ib)) := by
  subst ho
  exact (pe_cmpR (or_eqW S hcm hq) ha hb hm).of fun σ H Q ⟨ρ, η, St, R, h0⟩ => rd1 (f := fun x S1 => ((evalP C ib).1 η S1).bind fun y S2 => cmpW C o x y S2) R h0 fun w v ρ1 S1 H1 R1 e1 r1 h1 =>
    rd1 R1 h1 fun w2 v2 ρ2 S2 H2 R2 e2 r2 h2 => ⟨ρ2, S2, w, w2, R2.st, r1.mono e2.kp e2.pre, r2, h2.quiet cmpW_noexc⟩
theorem t_eq {op : CmpOp} (S : Sd G Wx C k X) (hcm : X.calm = true) (ha : PE X a (RE G none Wx C ia)) (hb : PE X b (RE G none Wx C ib)) (hq : o = .eq ∨ o = .ne := by decide) (hm : behindInMarks op b = false := by with_unfolding_all rfl) (ho : op = o.op := by rfl) :
    PT X (.Compare a [op] [b] pos) (RT G none Wx C (.cmp o ia ib)) := by
  subst ho
  exact (pt_cmpR (or_eqW S hcm hq) ha hb hm).of fun σ H Q ⟨ρ, η, St, R, h0⟩ => by
    replace h0 : Sat G (fun c d H => Wx c d σ H) ρ St H ((((evalP C ia).1 η St).bind fun x S1 => ((evalP C ib).1 η S1).bind fun y S2 => cmpW C o x y S2).bind fun x S1 => ofO (truthy x S1) S1) _ := h0
    rw [Res.bind_assoc] at h0
    refine rd1 R h0 fun w v ρ1 S1 H1 R1 e1 r1 h1 => ?_
    rw [Res.bind_assoc] at h1
    refine rd1 R1 h1 fun w2 v2 ρ2 S2 H2 R2 e2 r2 h2 => ⟨ρ2, S2, w, w2, R2.st, r1.mono e2.kp e2.pre, r2, ?_⟩
    refine ((h2.bind.quiet (W2 := fun _ _ _ => False) cmpW_noexc).and (φ := fun w => ∃ k, w = .d (.bl k)) fun w S' e => cmpW_bl e).mono fun w3 ρ3 S3 H3 e3 R3 ⟨⟨kb, hk⟩, _, _, h3⟩ v r3 => ?_
    subst hk
    obtain ⟨z, ez, h4⟩ := h3.ofO
    cases ez
    cases r3 with | d r3 => cases r3 with | bl _ => exact ⟨kb, rfl, h4.now R3⟩
end
end RI
/-! RI12: targets, iterators. -/
namespace RI
open PySem PySem.Spec PyProof.Rows L2
abbrev noX : XK := fun _ _ _ => False
/-- σ' is σ but for those names -/
def SameBut (vs : List Nat) (σ σ' : L2.St) : Prop := ∀ own : List Nat, (∀ v ∈ vs, v ∈ own) → wipe σ' own = wipe σ own
mutual
def ITs.names : ITs → List Nat
  | .nil => []
  | .cons t ts => IT.names t ++ ITs.names ts
def IT.names : IT → List Nat
  | .nm i => [i]
  | .tup ts => ITs.names ts
  | _ => []
end
def RdG (G : Wd) (ns : List Nat) (m : W → Env → Store → Res Env) : TG := fun v σ H Q => ∃ ρ η S w, RelAll G none ρ η S σ H ∧ RelW G none (Live ρ S) ρ H w v ∧
  Sat G noX ρ S H (noExc (m w η S)) fun η' ρ' S' H' => ∀ σ', RelAll G none ρ' η' S' σ' H' → SameBut ns σ σ' → Q σ' H'
def RdGs (G : Wd) (ns : List Nat) (m : List D → Env → Store → Res Env) : TGs := fun vs σ H Q => ∃ ρ η S xs, RelAll G none ρ η S σ H ∧ RelDs G (Live ρ S) H xs vs ∧
  Sat G noX ρ S H (noExc (m xs η S)) fun η' ρ' S' H' => ∀ σ', RelAll G none ρ' η' S' σ' H' → SameBut ns σ σ' → Q σ' H'
theorem noExc_bind {α β : Type} (r : Res α) (f : α → Store → Res β) : noExc (r.bind f) = (noExc r).bind fun a S => noExc (f a S) := by cases r <;> rfl
theorem _root_.L2.PG.of {X : Cx} {e : Expr} {t t' : TG} (h : PG X e t) (k : ∀ v σ H Q, t' v σ H Q → t v σ H Q) : PG X e t' := ⟨fun pins s σ H v u Q I r q => h.run pins s σ H v u Q I r (k v σ H Q q)⟩
theorem _root_.L2.PGs.of {X : Cx} {e : List Expr} {t t' : TGs} (h : PGs X e t) (k : ∀ v σ H Q, t' v σ H Q → t v σ H Q) : PGs X e t' := ⟨fun pins s σ H v u Q I r q => h.run pins s σ H v u Q I r (k v σ H Q q)⟩
theorem _root_.L2.PI.of {X : Cx} {tg e : Expr} {t t' : TI} (h : PI X tg e t) (k : ∀ σ H Q, t' σ H Q → t σ H Q) : PI X tg e t' := ⟨fun pins s σ H Q I q => h.run pins s σ H Q I (k σ H Q q)⟩
section
variable {G : Wd} {Wx : L2.WX} {C : Ctx} {k : Nat} {X : Cx} {pos p p2 apos : Pos} {x : Str} {i : Nat} {a b c e o : Expr} {ia ib ie io ii : IE}
/-- no error comes: any wish about errors will do -/
theorem Sat.nx {α : Type} {ρ : Rho} {S : Store} {H : Hp} {W1 W2 : XK} {r : Res α} {P : α → Rho → Store → Hp → Prop} (h : Sat G W1 ρ S H (noExc r) P) : Sat G W2 ρ S H r P := by
  cases r with
  | ok a S' => exact h
  | exc c fs S' => exact h.elim
  | stk => exact h
theorem Sat.nx' {α : Type} {ρ : Rho} {S : Store} {H : Hp} {W1 W2 : XK} {r : Res α} {P : α → Rho → Store → Hp → Prop} (h : Sat G W1 ρ S H (noExc r) P) : Sat G W2 ρ S H (noExc r) P := by
  cases r with
  | ok a S' => exact h
  | exc c fs S' => exact h
  | stk => exact h
theorem Sat.bindN {α β : Type} {ρ : Rho} {S : Store} {H : Hp} {W1 W2 : XK} {r : Res α} {f : α → Store → Res β} {P : β → Rho → Store → Hp → Prop} (h : Sat G W1 ρ S H ((noExc r).bind f) P) :
    Sat G W2 ρ S H (noExc r) fun a ρ1 S1 H1 => Ext ρ S H ρ1 S1 H1 ∧ RelS G ρ1 S1 H1 ∧ Sat G W1 ρ1 S1 H1 (f a S1) P := by
  cases r with
  | ok a S' => exact fun ρ' H' e R => ⟨e, R, Sat.from e h⟩
  | exc c fs S' => exact h
  | stk => exact h
theorem wipe_get (σ : L2.St) (j : Nat) : ∀ vs : List Nat, (wipe σ vs)[j]? = if j ∈ vs then σ[j]?.map (fun _ => none) else σ[j]?
  | [] => by simp [wipe]
  | v :: vs => by
    show ((wipe σ vs).set v none)[j]? = _
    by_cases e : j = v
    · subst e
      rw [List.getElem?_set]
      have := wipe_length σ vs
      simp only [if_true, List.mem_cons, true_or]
      rw [this]
      by_cases h : j < σ.length
      · rw [if_pos h, List.getElem?_eq_getElem h] <;> rfl
      · rw [if_neg h, List.getElem?_eq_none (by omega)] <;> rfl
    · rw [List.getElem?_set_ne (Ne.symm e), wipe_get σ j vs]
      simp [e]
theorem same_set (i : Nat) (v : Option V) {σ : L2.St} : SameBut [i] σ (σ.set i v) := by
  intro own h
  have hi := h i (List.mem_singleton.mpr rfl)
  apply List.ext_getElem?
  intro j
  rw [wipe_get, wipe_get]
  by_cases e : j = i
  · subst e
    rw [if_pos hi, if_pos hi, List.getElem?_set]
    simp only [if_true]
    by_cases h : j < σ.length
    · rw [if_pos h, List.getElem?_eq_getElem h] <;> rfl
    · rw [if_neg h, List.getElem?_eq_none (by omega)] <;> rfl
  · rw [List.getElem?_set_ne (Ne.symm e)]
theorem SameBut.refl (vs : List Nat) (σ : L2.St) : SameBut vs σ σ := fun _ _ => rfl
theorem SameBut.trans {v1 v2 : List Nat} {σ σ1 σ2 : L2.St} (a : SameBut v1 σ σ1) (b : SameBut v2 σ1 σ2) : SameBut (v1 ++ v2) σ σ2 := fun own h =>
  (b own fun v hv => h v (List.mem_append_right _ hv)).trans (a own fun v hv => h v (List.mem_append_left _ hv))
theorem g_nm (S : Sd G Wx C k X) (hi : X.N[i]? = some x) (hx : Loc X.env.scope x) (hf : X.fn x = true ∨ X.env.scope.names.lookup x = some .local := by first | exact .inl rfl | exact .inr rfl | assumption) : PG X (.Name x pos) (RdG G (IT.names (.nm i)) (setT C (.nm i))) :=
  (pg_name S.nd hi hx hf).of fun v σ H Q ⟨ρ, η, St, w, R, r, h⟩ => by
    replace h : Sat G noX ρ St H (noExc (if i < η.length then .ok (η.set i (some w)) St else .stk)) _ := h
    split at h
    · next hl => exact h.now R.st _ (R.set r hl) (same_set i _)
    · exact h.elim
theorem gs_nil : PGs X [] (RdGs G (ITs.names .nil) (setTs C .nil)) := pgs_nil.of fun vs σ H Q ⟨ρ, η, St, xs, R, r, h⟩ => by
  cases r with
  | nil => exact ⟨rfl, (show Sat G noX ρ St H (noExc (.ok η St)) _ from h).now R.st _ R (SameBut.refl _ _)⟩
  | cons a b => exact (show False from h).elim
theorem gs_cons {t : IT} {ts : ITs} {es : List Expr} (h1 : PG X e (RdG G (IT.names t) (setT C t))) (h2 : PGs X es (RdGs G (ITs.names ts) (setTs C ts))) (hs : (assignEach (e :: es) X.env).map (·.2) = assign e X.env :: (assignEach es X.env).map (·.2) := by rfl) : PGs X (e :: es) (RdGs G (ITs.names (.cons t ts)) (setTs C (.cons t ts))) :=
  (pgs_cons h1 h2 hs).of fun vs σ H Q ⟨ρ, η, St, xs, R, r, h⟩ => by
    cases r with
    | nil => exact (show False from h).elim
    | @cons x v xs vs ra rb =>
      replace h : Sat G noX ρ St H (noExc ((setT C t (.d x) η St).bind fun η1 S1 => setTs C ts xs η1 S1)) _ := h
      rw [noExc_bind] at h
      exact ⟨v, vs, rfl, ρ, η, St, .d x, R, .d ra, h.bindN.mono fun η1 ρ1 S1 H1 _ _ ⟨e1, R1, h2⟩ σ' R' sb => ⟨ρ1, η1, S1, xs, R', rb.mono e1.kp, h2.mono fun η2 ρ2 S2 H2 _ _ q σ2 R2 sb2 => q σ2 R2 (sb.trans sb2)⟩⟩
def ITs.len : ITs → Nat
  | .nil => 0
  | .cons _ ts => ts.len + 1
theorem setTs_len {C : Ctx} : ∀ (ts : ITs) (xs : List D) (η : Env) (S : Store) (η' : Env) (S' : Store), setTs C ts xs η S = .ok η' S' → xs.length = ts.len
  | .nil, [], _, _, _, _, _ => rfl
  | .nil, _ :: _, _, _, _, _, h => nomatch h
  | .cons t ts, [], _, _, _, _, h => nomatch h
  | .cons t ts, x :: xs, η, S, η', S', h => by
    replace h : ((setT C t (.d x) η S).bind fun η1 S1 => setTs C ts xs η1 S1) = .ok η' S' := h
    cases h1 : setT C t (.d x) η S with
    | ok η1 S1 =>
      rw [h1, Res.bind_ok] at h
      exact congrArg (· + 1) (setTs_len ts xs η1 S1 _ _ h)
    | exc c fs S2 => rw [h1] at h; cases h
    | stk => rw [h1] at h; cases h
theorem g_tup {ts : ITs} {es : List Expr} {kk : Nat} (S : Sd G Wx C k X) (hcm : X.calm = true) (h : PGs X es (RdGs G (ITs.names ts) (setTs C ts))) (hn : (assignEach es X.env).length = ts.len := by rfl) (hst : (assignEach es X.env).findIdx? (·.1) = none := by rfl) :
    PG X (.Tuple es kk pos) (RdG G (IT.names (.tup ts)) (setT C (.tup ts))) :=
  (pg_tup hcm h hn hst).of fun v σ H Q ⟨ρ, η, St, w, R, r, h⟩ => by
    replace h : Sat G noX ρ St H (noExc (match seqOf w St with
      | some (.tup, xs) => setTs C ts xs η St
      | _ => .stk)) _ := h
    split at h
    · next xs e =>
      obtain ⟨a, vs, rfl, hk, hs⟩ := r.seqOf R.st e
      rcases hk with ⟨_, hk⟩ | ⟨z, _⟩
      · refine ⟨a, vs, rfl, by rw [S.hK]; exact hk, ?_, ρ, η, St, xs, R, hs, h⟩
        cases hr : setTs C ts xs η St with
        | ok η1 S1 => rw [← hs.length]; exact setTs_len ts xs η St _ _ hr
        | exc c fs S1 => rw [hr] at h; exact h.elim
        | stk => rw [hr] at h; exact h.elim
      · cases z
    · exact h.elim
/-! ### stores into a list, a field -/
def rSetW (G : Wd) : TSet := fun o i v H Q => ∃ ρ S wo wi w, RelS G ρ S H ∧ RelW G none (Live ρ S) ρ H wo o ∧ RelW G none (Live ρ S) ρ H wi i ∧ RelW G none (Live ρ S) ρ H w v ∧
  Sat G noX ρ S H (noExc (setSub wo wi w S)) fun _ ρ' S' H' => Q H'
theorem set_w : PSet X (rSetW G) := by
  intro pins s σ H o i v ov iv u Q I ro ri rv ⟨ρ, St, wo, wi, w, R, r1, r2, r3, h⟩
  refine set_list pins s σ H o i v ov iv u Q I ro ri rv ?_
  unfold setSub at h
  cases r1 with
  | loc hl =>
    cases r2 with
    | d r2 =>
      cases r2 with
      | int j =>
        dsimp only at h
        split at h
        · next xs hc =>
          split at h
          · next m hm =>
            rw [noExc_bind] at h
            cases hcell : (R.cell _ _ _ hc hl) with
            | lst hH hs =>
              rename_i a vs
              have hx := h
              rw [show noExc (toD w St) = toD w St from by rcases toD_cases w St with ⟨x, S1, e⟩ | e <;> rw [e] <;> rfl] at hx
              obtain ⟨x, S1, e1, R1, rx, h2⟩ := Sat.toD_bind R r3 hx
              split at h2
              · next xs' hc' =>
                cases R1.cell _ _ _ hc' hl with
                | lst hH' hs' =>
                  rename_i vs'
                  rw [hH] at hH'
                  cases hH'
                  refine ⟨_, vs, j, m, rfl, rfl, hH, by rw [← hs.length]; exact hm, ?_⟩
                  have al : alive (.lst xs') = true := rfl
                  have e2 := Ext.setCell (c' := .lst (xs'.set m x)) (o := .lst (vs.set m v)) R1 hc' al hl
                  exact h2 ρ _ e2 (R1.setCell hc' al hl (.lst (upd_same ..) ((hs'.set rx m).mono e2.kp)))
              · exact h2.elim
          · exact h.elim
        · next ws hc =>
          split at h
          · next m hm =>
            cases R.cell _ _ _ hc hl with
            | lsw hH hs =>
              rename_i vs
              refine ⟨_, vs, j, m, rfl, rfl, hH, by rw [← hs.length]; exact hm, ?_⟩
              have al : alive (.lsw ws) = true := rfl
              have e2 := Ext.setCell (c' := .lsw (ws.set m w)) (o := .lst (vs.set m v)) R hc al hl
              exact h ρ _ e2 (R.setCell hc al hl (.lsw (upd_same ..) ((hs.set r3 m).mono e2.kp e2.pre)))
          · exact h.elim
        · exact h.elim
      | _ => exact h.elim
    | _ => exact h.elim
  | _ => exact h.elim
theorem g_sub (S : Sd G Wx C k X) (ho : PE X o (RE G none Wx C io)) (hi : PE X e (RE G none Wx C ii))
    (ha : ∀ v, assign (.Subscript o e pos) X.env v = (do
      let ov ← holding [v] (eval o X.env)
      let iv ← holding [v, ov] (eval e X.env)
      standAt pos
      holding [v, ov, iv] (setItem ov iv v)
      release [v, ov, iv] []) := by intro _; rfl) : PG X (.Subscript o e pos) (RdG G (IT.names (.sub io ii)) (setT C (.sub io ii))) :=
  (pg_sub ho hi (set_w (G := G)) ha).of fun v σ H Q ⟨ρ, η, St, w, R, r, h⟩ => by
    replace h : Sat G noX ρ St H (noExc (((evalP C io).1 η St).bind fun x S1 => ((evalP C ii).1 η S1).bind fun k S2 => (setSub x k w S2).bind fun _ S3 => .ok η S3)) _ := h
    rw [noExc_bind] at h
    refine ⟨ρ, η, St, R, (Sat.nx (W1 := noX) h.bindN).mono fun wo ρ1 S1 H1 _ _ ⟨e1, R1, h1⟩ vo ro => ?_⟩
    rw [noExc_bind] at h1
    refine ⟨ρ1, η, S1, R.mono e1 R1, (Sat.nx (W1 := noX) h1.bindN).mono fun wi ρ2 S2 H2 _ _ ⟨e2, R2, h2⟩ vi ri => ?_⟩
    rw [noExc_bind] at h2
    have R12 := (R.mono e1 R1).mono e2 R2
    exact ⟨ρ2, S2, wo, wi, w, R2, ro.mono e2.kp e2.pre, ri, (r.mono e1.kp e1.pre).mono e2.kp e2.pre, h2.bindN.mono fun _ ρ3 S3 H3 _ _ ⟨e3, R3, h3⟩ => h3.now R3 _ (R12.mono e3 R3) (SameBut.refl _ _)⟩
end
end RI
/-! RI13: what loops run over. -/
namespace RI
open PySem PySem.Spec PyProof.Rows L2

/-- what the iterators ask of a later state -/
structure EK (ρ : Rho) (S : Store) (H : Hp) (ρ' : Rho) (S' : Store) (H' : Hp) : Prop where
  kp : Kp (Live ρ S) H (Live ρ' S') H'
  pre : ∃ t, ρ'.l = ρ.l ++ t
  dom : ∀ a, H a ≠ none → H' a ≠ none
theorem Ext.ek {ρ ρ' : Rho} {S S' : Store} {H H' : Hp} (e : Ext ρ S H ρ' S' H') : EK ρ S H ρ' S' H' := ⟨e.kp, by obtain ⟨t, h⟩ := e.pre; exact ⟨t, by rw [h]; rfl⟩, e.dom⟩
/-- the items are known and stay -/
structure FixIt (G : Wd) (ρ : Rho) (S : Store) (H : Hp) (J : It) (xs : List D) : Prop where
  go : ∀ i ρ' S' H', EK ρ S H ρ' S' H' → RelS G ρ' S' H' → i < xs.length → J.go i H'
  yld : ∀ i d v ρ' S' H' H'', EK ρ S H ρ' S' H' → RelS G ρ' S' H' → xs[i]? = some d → J.yld i H' v H'' → Ext ρ' S' H' ρ' S' H'' ∧ RelS G ρ' S' H'' ∧ RelD G (Live ρ' S') H'' d v
  stop : ∀ ρ' S' H', EK ρ S H ρ' S' H' → RelS G ρ' S' H' → J.stop xs.length H'
/-- the list of a cell, as it stands at each turn -/
structure LocIt (G : Wd) (ρ : Rho) (S : Store) (H : Hp) (J : It) (l : Nat) : Prop where
  go : ∀ (i : Nat) ys d ρ' S' H', EK ρ S H ρ' S' H' → RelS G ρ' S' H' → S'[l]? = some (.lst ys) → ys[i]? = some d → J.go i H'
  yld : ∀ (i : Nat) ys d v ρ' S' H' H'', EK ρ S H ρ' S' H' → RelS G ρ' S' H' → S'[l]? = some (.lst ys) → ys[i]? = some d → J.yld i H' v H'' → H'' = H' ∧ RelD G (Live ρ' S') H' d v
  stop : ∀ (i : Nat) ys ρ' S' H', EK ρ S H ρ' S' H' → RelS G ρ' S' H' → S'[l]? = some (.lst ys) → ys.length ≤ i → J.stop i H'
def ItOk (G : Wd) (ρ : Rho) (S : Store) (H : Hp) (J : It) : Src → Prop
  | .fix xs => FixIt G ρ S H J xs
  | .loc l _ => LocIt G ρ S H J l
def RdI (G : Wd) (Wx : L2.WX) (m : Env → Store → Res Src) : TI := fun σ H R => ∃ ρ η S, RelAll G none ρ η S σ H ∧
  Sat G (fun c d H => Wx c d σ H) ρ S H (m η S) fun src ρ' S' H' => ∀ J, ItOk G ρ' S' H' J src → R J H'
section
variable {G : Wd} {ρ : Rho} {S : Store} {H : Hp} {K : PySem.W.Frag} {a : Addr} {xs : List D} {vs : List V}
/-- a sequence that stays as it is -/
def Stays (ρ : Rho) (S : Store) (k : SK) (K : PySem.W.Frag) (H : Hp) (a : Addr) (vs : List V) : Prop := ∀ ρ' S' H', EK ρ S H ρ' S' H' → Sq k K H' a vs
theorem stays_tup (h : SqT K H a vs) : Stays ρ S .tup K H a vs := fun ρ' S' H' e => e.kp.sqT h
theorem stays_lst (h : H a = some (.lst vs)) (n : ¬ Live ρ S a) : Stays ρ S .lst K H a vs := fun ρ' S' H' e => SqL.of (e.kp.keep a _ h fun z => absurd z n)
theorem stays_scr (h : ScrL K H a vs) : Stays ρ S .lst K H a vs := fun ρ' S' H' e => by
  rcases h with ⟨o, h⟩ | h
  · exact .inl (.inr ⟨o, e.kp.keep a _ h fun _ => trivial⟩)
  · exact .inr h
/-- all sequences but cells stay -/
theorem stays_of {k : SK} {w : W} {v : V} (r : RelW G none (Live ρ S) ρ H w v) (e : seqOf w S = some (k, xs)) (hw : ∀ l, w ≠ .loc l) : ∃ a vs, v = .ref a ∧ Stays ρ S k G.K H a vs ∧ RelDs G (Live ρ S) H xs vs := by
  cases r with
  | d r =>
    cases r with
    | tup h hs => cases e; exact ⟨_, _, rfl, stays_tup h, hs⟩
    | lst h n hs => cases e; exact ⟨_, _, rfl, stays_lst h n, hs⟩
    | _ => cases e
  | loc h => exact absurd rfl (hw _)
  | scr h => cases e; exact ⟨_, _, rfl, stays_scr h, RelDs.ints _⟩
  | exn h => cases h
theorem sqL_inj_len : True := trivial
/-- the plain iterator of a sequence -/
def ItS (k : SK) (K : PySem.W.Frag) (a : Addr) : It := match k with
  | .tup => Itt K a
  | .lst => Itl K a
theorem fix_seq {k : SK} (st : Stays ρ S k K H a vs) (r : RelDs G (Live ρ S) H xs vs) : FixIt G ρ S H (ItS k K a) xs := by
  refine ⟨fun i ρ' S' H' e R hi => ?_, fun i d v ρ' S' H' H'' e R hd y => ?_, fun ρ' S' H' e R => ?_⟩
  · obtain ⟨v, hv, _⟩ := r.get (List.getElem?_eq_getElem hi)
    cases k <;> exact ⟨vs, v, st _ _ _ e, hv⟩
  · obtain ⟨u, hu, ru⟩ := r.get hd
    cases k with
    | tup =>
      obtain ⟨rfl, y⟩ := y
      have := y vs (st _ _ _ e)
      rw [hu] at this
      cases this
      exact ⟨Ext.refl, R, ru.mono e.kp⟩
    | lst =>
      obtain ⟨rfl, y⟩ := y
      have := y vs (st _ _ _ e)
      rw [hu] at this
      cases this
      exact ⟨Ext.refl, R, ru.mono e.kp⟩
  · cases k <;> exact ⟨vs, st _ _ _ e, by rw [r.length]; exact Nat.le_refl _⟩
theorem fix_rng {i : Int} {n : Nat} {f : Nat → Int} (hf : ∀ j, f j = i + (j : Nat)) : FixIt G ρ S H (Itr i n) ((List.range n).map fun j => D.int (f j)) := by
  refine ⟨fun j ρ' S' H' e R hj => by show j < n; simpa using hj, fun j d v ρ' S' H' H'' e R hd y => ?_, fun ρ' S' H' e R => by show n ≤ _; simp⟩
  obtain ⟨rfl, rfl⟩ := y
  rw [List.getElem?_map] at hd
  cases hr : (List.range n)[j]? with
  | none => rw [hr] at hd; cases hd
  | some m =>
    have hm : m = j := by
      obtain ⟨h1, h2⟩ := List.getElem?_eq_some_iff.mp hr
      simpa using h2.symm
    rw [hr] at hd
    cases hd
    subst hm
    refine ⟨Ext.refl, R, ?_⟩
    rw [show (fun j => D.int (f j)) m = D.int (i + (m : Nat)) from congrArg D.int (hf m)]
    exact .int _
theorem fix_str {s : List Nat} : FixIt G ρ S H (Its (Str' s)) (s.map fun c => D.str [c]) := by
  refine ⟨fun j ρ' S' H' e R hj => by show j < s.toArray.size; simpa using hj, fun j d v ρ' S' H' H'' e R hd y => ?_, fun ρ' S' H' e R => by show s.toArray.size ≤ _; simp⟩
  obtain ⟨rfl, c, hc, rfl⟩ := y
  replace hc : s.toArray[j]? = some c := hc
  rw [List.getElem?_toArray] at hc
  rw [List.getElem?_map, hc] at hd
  cases hd
  exact ⟨Ext.refl, R, .str [c]⟩
theorem fix_en {k : SK} (st : Stays ρ S k K H a vs) (r : RelDs G (Live ρ S) H xs vs) : FixIt G ρ S H (ItE k K a vs) (xs.mapIdx fun i x => D.tup [.int (i : Nat), x]) := by
  refine ⟨fun i ρ' S' H' e R hi => ⟨st _ _ _ e, by rw [← r.length]; simpa using hi⟩, fun i d v ρ' S' H' H'' e R hd y => ?_, fun ρ' S' H' e R => ⟨st _ _ _ e, by rw [← r.length]; simp⟩⟩
  obtain ⟨T, x, rfl, hT, rfl, hx⟩ := y
  rw [List.getElem?_mapIdx] at hd
  cases hq : xs[i]? with
  | none => rw [hq] at hd; cases hd
  | some q =>
    rw [hq] at hd
    cases hd
    obtain ⟨u, hu, ru⟩ := r.get hq
    rw [hu] at hx
    cases hx
    exact ⟨Ext.newObj hT, R.newObj hT, RelD.newTup R hT (.cons (.int _) (.cons (ru.mono e.kp) .nil))⟩
theorem fix_zip {k1 k2 : SK} {b : Addr} {ys : List D} {us : List V} (st : Stays ρ S k1 K H a vs) (r : RelDs G (Live ρ S) H xs vs) (st2 : Stays ρ S k2 K H b us) (r2 : RelDs G (Live ρ S) H ys us) :
    FixIt G ρ S H (ItZ k1 k2 K a b vs us) ((xs.zip ys).map fun p => D.tup [p.1, p.2]) := by
  have l1 := r.length
  have l2 := r2.length
  refine ⟨fun i ρ' S' H' e R hi => ⟨st _ _ _ e, st2 _ _ _ e, ?_⟩, fun i d v ρ' S' H' H'' e R hd y => ?_, fun ρ' S' H' e R => ⟨st _ _ _ e, st2 _ _ _ e, ?_⟩⟩
  · rw [List.length_map, List.length_zip] at hi
    omega
  · obtain ⟨T, x, y, rfl, hT, rfl, hx, hy⟩ := y
    rw [List.getElem?_map] at hd
    cases hq : (xs.zip ys)[i]? with
    | none => rw [hq] at hd; cases hd
    | some q =>
      rw [hq] at hd
      cases hd
      obtain ⟨h1, h2⟩ := List.getElem?_zip_eq_some.mp hq
      obtain ⟨u, hu, ru⟩ := r.get h1
      obtain ⟨u2, hu2, ru2⟩ := r2.get h2
      rw [hu] at hx
      cases hx
      rw [hu2] at hy
      cases hy
      exact ⟨Ext.newObj hT, R.newObj hT, RelD.newTup R hT (.cons (ru.mono e.kp) (.cons (ru2.mono e.kp) .nil))⟩
  · rw [List.length_map, List.length_zip]
    omega
theorem loc_it {l : Nat} (hl : ρ.l[l]? = some a) : LocIt G ρ S H (Itl K a) l := by
  have key : ∀ {ys : List D} {ρ' : Rho} {S' : Store} {H' : Hp}, EK ρ S H ρ' S' H' → RelS G ρ' S' H' → S'[l]? = some (.lst ys) → ∃ vs, SqL K H' a vs ∧ RelDs G (Live ρ' S') H' ys vs := by
    intro ys ρ' S' H' e R hc
    obtain ⟨t, et⟩ := e.pre
    cases R.cell l _ a hc (by rw [et, List.getElem?_append_left (get_lt hl)]; exact hl) with
    | lst hH hs => exact ⟨_, SqL.of hH, hs⟩
  refine ⟨fun i ys d ρ' S' H' e R hc hd => ?_, fun i ys d v ρ' S' H' H'' e R hc hd y => ?_, fun i ys ρ' S' H' e R hc hi => ?_⟩
  · obtain ⟨vs, hv, hs⟩ := key e R hc
    obtain ⟨u, hu, ru⟩ := hs.get hd
    exact ⟨vs, u, hv, hu⟩
  · obtain ⟨vs, hv, hs⟩ := key e R hc
    obtain ⟨u, hu, ru⟩ := hs.get hd
    obtain ⟨rfl, y⟩ := y
    have := y vs hv
    rw [hu] at this
    cases this
    exact ⟨rfl, ru⟩
  · obtain ⟨vs, hv, hs⟩ := key e R hc
    exact ⟨vs, hv, by rw [← hs.length]; exact hi⟩
end
/-! ### the rules -/
section
variable {G : Wd} {Wx : L2.WX} {C : Ctx} {k : Nat} {X : Cx} {pos p p2 apos tpos : Pos} {x : Str} {i : Nat} {a b c e o tg : Expr} {ia ib ie io ii : IE} {te : TE}
def iSeq (K : PySem.W.Frag) (tl : TE) : TI := fun σ H R => tl σ H fun x H1 => (∃ k a vs, x = .ref a ∧ Sq k K H1 a vs ∧ R (ItS k K a) H1) ∨ ∃ s, x = .str s ∧ R (Its s) H1
theorem pi_seq {l : Expr} {tl : TE} (hl : PE X l tl) : PI X tg l (iSeq X.K tl) := by
  refine ⟨fun pins s σ H R I h => ?_⟩
  refine thn (hl.run pins s σ H _ I h) fun v s1 ⟨x, H1, I1, r1, q1⟩ => ?_
  rcases q1 with ⟨k, a, vs, rfl, hq, q⟩ | ⟨z, rfl, q⟩
  · cases r1
    cases k with
    | tup =>
      obtain ⟨its, rv, p, hz⟩ := I1.tuple hq
      refine wpAny_pyIter_tuple (show s1.heap.IsTuple a its.toArray from p) ?_
      refine ⟨s1.heap.objs.size, [s1.heap.objs.size], _, _, H1, rfl, I1.kept (t' := s1.toks) fun b o e => Heap.get?_push_of_some _ e, turn_tuple a _, ⟨_, Heap.get?_push_size _ rfl, rfl, rfl⟩, fun b hb => ?_, q⟩
      have e : b = s1.heap.objs.size := by simpa using hb
      subst e
      exact I1.fpOk (Nat.le_refl _) (I1.hok.fresh (Nat.le_refl _))
    | lst =>
      obtain ⟨its, rv, p, hz⟩ := I1.list hq
      refine wpAny_pyIter_list p.isList ?_
      refine ⟨s1.heap.objs.size, [s1.heap.objs.size], _, _, H1, rfl, I1.kept (t' := s1.toks) fun b o e => Heap.get?_push_of_some _ e, turn_list a _, ⟨_, Heap.get?_push_size _ rfl, rfl, rfl⟩, fun b hb => ?_, q⟩
      have e : b = s1.heap.objs.size := by simpa using hb
      subst e
      exact I1.fpOk (Nat.le_refl _) (I1.hok.fresh (Nat.le_refl _))
  · obtain ⟨t, rfl⟩ := r1
    cases ha : z.cps.all (· < 128)
    · exact wpAny_pyIter_wide ha (pi_one (tk := s1.toks) I1 _ (turn_str _ z t "str_iterator" (.inr rfl)) ⟨_, Heap.get?_push_size _ rfl, rfl, rfl⟩ q)
    · exact wpAny_pyIter_ascii ha (pi_one (tk := s1.toks) I1 _ (turn_str _ z t "str_ascii_iterator" (.inl rfl)) ⟨_, Heap.get?_push_size _ rfl, rfl, rfl⟩ q)
theorem i_seq (S : Sd G Wx C k X) (he : PE X e (RE G none Wx C ie)) : PI X tg e (RdI G Wx (evalI C (.seq ie))) :=
  (pi_seq he).of fun σ H R ⟨ρ, η, St, RA, h⟩ => rd1 (f := fun w S1 => match w with
    | .loc l => match S1[l]? with
      | some (.lst ys) => .ok (Src.loc l ys.length) S1
      | _ => .stk
    | .d (.str s) => .ok (Src.fix (s.map fun c => .str [c])) S1
    | w => match seqOf w S1 with
      | some (_, xs) => .ok (Src.fix xs) S1
      | none => .stk) RA h fun w v ρ1 S1 H1 R1 e1 r1 h1 => by
    have gen : (∀ l, w ≠ .loc l) → (∀ s, w ≠ .d (.str s)) → Sat G (fun c d H => Wx c d σ H) ρ1 S1 H1 (match seqOf w S1 with
      | some (_, xs) => .ok (Src.fix xs) S1
      | none => .stk) (fun src ρ' S' H' => ∀ J, ItOk G ρ' S' H' J src → R J H') → (∃ k a vs, v = .ref a ∧ Sq k X.K H1 a vs ∧ R (ItS k X.K a) H1) ∨ ∃ s, v = .str s ∧ R (Its s) H1 := by
      intro hw _ h2
      split at h2
      · next k xs es =>
        obtain ⟨a, vs, rfl, st, hs⟩ := stays_of r1 es hw
        rw [S.hK]
        exact .inl ⟨k, a, vs, rfl, st _ _ _ Ext.refl.ek, h2.now R1.st _ (fix_seq st hs)⟩
      · exact h2.elim
    cases r1 with
    | loc hl =>
      dsimp only at h1
      split at h1
      · next ys hc =>
        cases R1.st.cell _ _ _ hc hl with
        | lst hH hs =>
          exact .inl ⟨.lst, _, _, rfl, SqL.of hH, h1.now R1.st (Itl X.K _) (loc_it hl)⟩
      · exact h1.elim
    | scr hs => exact gen (by simp) (by simp) h1
    | exn z => cases z
    | d r1 =>
      cases r1 with
      | str s => exact .inr ⟨_, rfl, h1.now R1.st _ fix_str⟩
      | non => exact gen (by simp) (by simp) h1
      | bl _ => exact gen (by simp) (by simp) h1
      | int _ => exact gen (by simp) (by simp) h1
      | tup _ _ => exact gen (by simp) (by simp) h1
      | lst _ _ _ => exact gen (by simp) (by simp) h1
      | dic _ _ _ => exact gen (by simp) (by simp) h1
      | obj _ _ _ => exact gen (by simp) (by simp) h1
      | fn _ => exact gen (by simp) (by simp) h1
theorem lineR_eq : (lineR : Int) = 2 ^ 62 := by decide
theorem i_rng (S : Sd G Wx C k X) (hg : Gl X "range") (ha : PE X a (RE G none Wx C ia)) (hs : starEach [a] X.env = [(false, eval a X.env)] := by rfl) (h1 : starEach [a] X.env = (false, eval a X.env) :: starEach [] X.env := by rfl) :
    PI X tg (.Call (.Name "range" p) [a] [] pos) (RdI G Wx (evalI C (.rng ia))) :=
  (pi_range1 hg (S.bmg _ (by decide)) (pa_cons ha pa_nil h1) hs).of fun σ H R ⟨ρ, η, St, RA, h⟩ => rd1 (f := fun w S1 => match w with
    | .d (.int n) => if -lineR ≤ n ∧ n < lineR then .ok (Src.fix ((List.range n.toNat).map fun i => .int (i : Nat))) S1 else .stk
    | _ => .stk) RA h fun w v ρ1 S1 H1 R1 e1 r1 h1 => by
    cases r1 with
    | d r1 =>
      cases r1 with
      | int n =>
        dsimp only at h1
        split at h1
        · next hn =>
          rw [lineR_eq] at hn
          exact ⟨n, rfl, hn.1, hn.2, h1.now R1.st (Itr 0 n.toNat) (fix_rng fun j => by simp)⟩
        · exact h1.elim
      | _ => exact h1.elim
    | _ => exact h1.elim
theorem i_rng2 (S : Sd G Wx C k X) (hg : Gl X "range") (ha : PE X a (RE G none Wx C ia)) (hb : PE X b (RE G none Wx C ib)) (hs : starEach [a, b] X.env = [(false, eval a X.env), (false, eval b X.env)] := by rfl) (hs2 : starEach [b] X.env = [(false, eval b X.env)] := by rfl)
    (h1 : starEach [a, b] X.env = (false, eval a X.env) :: starEach [b] X.env := by rfl) (h2 : starEach [b] X.env = (false, eval b X.env) :: starEach [] X.env := by rfl) :
    PI X tg (.Call (.Name "range" p) [a, b] [] pos) (RdI G Wx (evalI C (.rng2 ia ib))) :=
  (pi_range2 hg (S.bmg _ (by decide)) (pa_cons ha (pa_cons hb pa_nil h2) h1) hs hs2).of fun σ H R ⟨ρ, η, St, RA, h⟩ => rd1 (f := fun w S1 => ((evalP C ib).1 η S1).bind fun u S2 => match w, u with
    | .d (.int i), .d (.int n) => if (-lineR ≤ i ∧ i < lineR) ∧ -lineR ≤ n ∧ n < lineR then .ok (Src.fix ((List.range (n - i).toNat).map fun (k : Nat) => .int (i + k))) S2 else .stk
    | _, _ => .stk) RA h fun w v ρ1 S1 H1 R1 e1 r1 h1 => rd1 R1 h1 fun w2 v2 ρ2 S2 H2 R2 e2 r2 h2 => by
    cases r1 with
    | d r1 =>
      cases r1 with
      | int i =>
        cases r2 with
        | d r2 =>
          cases r2 with
          | int n =>
            dsimp only at h2
            split at h2
            · next hn =>
              rw [lineR_eq] at hn
              exact ⟨i, n, rfl, ⟨hn.1.1, hn.1.2, hn.2.1, hn.2.2⟩, h2.now R2.st (Itr i (n - i).toNat) (fix_rng fun j => rfl)⟩
            · exact h2.elim
          | _ => exact h2.elim
        | _ => exact h2.elim
      | _ => exact h2.elim
    | _ => exact h2.elim
theorem i_en {elts : List Expr} {kk : Nat} (S : Sd G Wx C k X) (hg : Gl X "enumerate") (ha : PE X a (RE G none Wx C ia)) (hs : starEach [a] X.env = [(false, eval a X.env)] := by rfl) (h1 : starEach [a] X.env = (false, eval a X.env) :: starEach [] X.env := by rfl) :
    PI X (.Tuple elts kk tpos) (.Call (.Name "enumerate" p) [a] [] pos) (RdI G Wx (evalI C (.enum ia))) :=
  (pi_en hg (S.bmg _ (by decide)) (pa_cons ha pa_nil h1) hs).of fun σ H R ⟨ρ, η, St, RA, h⟩ => rd1 (f := fun w S1 => match w with
    | .loc _ => .stk
    | w => match seqOf w S1 with
      | some (_, xs) => .ok (Src.fix (xs.mapIdx fun i x => .tup [.int (i : Nat), x])) S1
      | none => .stk) RA h fun w v ρ1 S1 H1 R1 e1 r1 h1 => by
    split at h1
    · exact h1.elim
    · next hw =>
      split at h1
      · next k xs es =>
        obtain ⟨a, vs, rfl, st, hs⟩ := stays_of r1 es (fun l z => hw l z)
        exact ⟨k, a, vs, rfl, by rw [S.hK]; exact st _ _ _ Ext.refl.ek, h1.now R1.st _ (by rw [S.hK]; exact fix_en st hs)⟩
      · exact h1.elim
theorem i_zip {elts : List Expr} {kk : Nat} (S : Sd G Wx C k X) (hg : Gl X "zip") (ha : PE X a (RE G none Wx C ia)) (hb : PE X b (RE G none Wx C ib)) (h1 : starEach [a, b] X.env = (false, eval a X.env) :: starEach [b] X.env := by rfl) (h2 : starEach [b] X.env = (false, eval b X.env) :: starEach [] X.env := by rfl)
    (hpl : (backTo pos (starEach [b] X.env)).any (·.1) = false := by rfl) : PI X (.Tuple elts kk tpos) (.Call (.Name "zip" p) [a, b] [] pos) (RdI G Wx (evalI C (.zip ia ib))) :=
  (pi_zp hg (S.bmg _ (by decide)) (pa_cons ha (pa_cons hb pa_nil h2) h1) h1 hpl).of fun σ H R ⟨ρ, η, St, RA, h⟩ => rd1 (f := fun w S1 => ((evalP C ib).1 η S1).bind fun u S2 => match w, u with
    | .d x, .d y => match seqOf (.d x) S2, seqOf (.d y) S2 with
      | some (_, xs), some (_, ys) => .ok (Src.fix ((xs.zip ys).map fun p => .tup [p.1, p.2])) S2
      | _, _ => .stk
    | _, _ => .stk) RA h fun w v ρ1 S1 H1 R1 e1 r1 h1 => rd1 R1 h1 fun w2 v2 ρ2 S2 H2 R2 e2 r2 h2 => by
    split at h2
    · next x y =>
      split at h2
      · next k1 xs k2 ys ex ey =>
        obtain ⟨a, vs, rfl, st, hs⟩ := stays_of (r1.mono e2.kp e2.pre) ex (by simp)
        obtain ⟨b, us, rfl, st2, hs2⟩ := stays_of r2 ey (by simp)
        exact ⟨k1, k2, a, b, vs, us, rfl, by rw [S.hK]; exact st _ _ _ Ext.refl.ek, by rw [S.hK]; exact st2 _ _ _ Ext.refl.ek, h2.now R2.st _ (by rw [S.hK]; exact fix_zip st hs st2 hs2)⟩
      · exact h2.elim
    · exact h2.elim
end
end RI
/-! RI14: list comprehensions. -/
namespace RI
open PySem PySem.Spec PyProof.Rows L2

/-! ### a list under way is held aside -/
def Rho.aside (ρ : Rho) (D : Addr) : Rho := ⟨ρ.l, fun a => ρ.F a ∨ a = D⟩
def Rho.wF (ρ : Rho) (F : Addr → Prop) : Rho := ⟨ρ.l, F⟩
section
variable {G : Wd} {ρ ρ1 ρ2 : Rho} {S S1 S2 : Store} {H H1 H2 : Hp} {D a : Addr} {o : HO} {F : Addr → Prop}
theorem RelW.monoF {L L' : Addr → Prop} {w : W} {v : V} (k : Kp L H L' H1) (p : ∃ t, ρ1.l = ρ.l ++ t) (h : RelW G none L ρ H w v) : RelW G none L' ρ1 H1 w v := by
  obtain ⟨t, e⟩ := p
  have h2 := h.mono (ρ1 := ρ.app t) k ⟨t, rfl⟩
  clear h
  cases h2 with
  | d h => exact .d h
  | loc h => exact .loc (by rw [e]; exact h)
  | scr h => exact .scr h
  | exn h => cases h
theorem RelWs.monoF {L L' : Addr → Prop} (k : Kp L H L' H1) (p : ∃ t, ρ1.l = ρ.l ++ t) : ∀ {ws : List W} {vs : List V}, RelWs G none L ρ H ws vs → RelWs G none L' ρ1 H1 ws vs
  | _, _, .nil => .nil
  | _, _, .cons h hs => .cons (h.monoF k p) (RelWs.monoF k p hs)
theorem RelFw.monoF {L L' : Addr → Prop} (k : Kp L H L' H1) (p : ∃ t, ρ1.l = ρ.l ++ t) : ∀ {ws : List (Nat × W)} {vs : List (Str × V)}, RelFw G L ρ H ws vs → RelFw G L' ρ1 H1 ws vs
  | _, _, .nil => .nil
  | _, _, .cons h hs => .cons (h.monoF k p) (RelFw.monoF k p hs)
theorem RelC.monoF {L L' : Addr → Prop} {c : Cell} (e : ∀ q, H a = some q → H1 a = some q) (k : Kp L H L' H1) (p : ∃ t, ρ1.l = ρ.l ++ t) (h : RelC G L ρ H c a) : RelC G L' ρ1 H1 c a := by
  cases h with
  | lst h hs => exact .lst (e _ h) (hs.mono k)
  | lsw h hs => exact .lsw (e _ h) (hs.monoF k p)
  | dct h hs => exact .dct (e _ h) (hs.mono k)
  | ins h hs => exact .ins (e _ h) (hs.monoF k p)
  | dead => exact .dead
theorem kp_aside (hD : H D = none) : Kp (Live ρ S) H (Live (ρ.aside D) S) (upd H D o) := by
  refine ⟨fun a q h _ => upd_some hD h, fun a h => ?_⟩
  rcases h with (f | e) | z
  · exact .inl (.inl f)
  · exact .inr (e ▸ hD)
  · exact .inl (.inr z)
theorem RelS.aside (R : RelS G ρ S H) (hD : H D = none) : RelS G (ρ.aside D) S (upd H D o) := by
  refine ⟨R.len, R.nd, fun l c a h1 h2 => (R.cell l c a h1 h2).monoF (fun q h => upd_some hD h) (kp_aside hD) ⟨[], by simp [Rho.aside]⟩, fun a h => upd_dom (R.dom a h), fun a f => ?_⟩
  rcases f with f | e
  · exact ⟨upd_dom (R.res a f).1, (R.res a f).2⟩
  · subst e
    exact ⟨by rw [upd_same]; simp, R.notin hD⟩
theorem RelS.unres (R : RelS G ρ S H) (hF : ∀ a, F a → ρ.F a) : RelS G (ρ.wF F) S H := by
  have k : Kp (Live ρ S) H (Live (ρ.wF F) S) H := ⟨fun _ _ h _ => h, fun a h => .inl (by
    rcases h with f | z
    · exact .inl (hF a f)
    · exact .inr z)⟩
  exact ⟨R.len, R.nd, fun l c a h1 h2 => (R.cell l c a h1 h2).monoF (fun _ h => h) k ⟨[], by simp [Rho.wF]⟩, R.dom, fun a f => R.res a (hF a f)⟩
/-- what is held aside is written -/
theorem kp_write {vs : List V} (hF : ρ.F D) (h : H D = some (.lst vs)) : Kp (Live ρ S) H (Live ρ S) (upd H D o) := by
  refine ⟨fun a q e s => ?_, fun a h => .inl h⟩
  by_cases z : a = D
  · subst z
    have := s (.inl hF)
    rw [h] at e
    cases e
    exact this.elim
  · rw [upd_ne z]; exact e
theorem RelS.write {vs : List V} (R : RelS G ρ S H) (hF : ρ.F D) (h : H D = some (.lst vs)) : RelS G ρ S (upd H D o) :=
  ⟨R.len, R.nd, fun l c a h1 h2 => (R.cell l c a h1 h2).monoF (fun q e => by
    have ne : a ≠ D := fun z => (R.res D hF).2 (by rw [← z]; exact List.mem_of_getElem? h2)
    rw [upd_ne ne]
    exact e) (kp_write hF h) ⟨[], by simp⟩, fun a h => upd_dom (R.dom a h), fun a f => ⟨upd_dom (R.res a f).1, (R.res a f).2⟩⟩
/-- one step, seen from where D is not held aside -/
theorem Ext.unaside (e : Ext ρ1 S1 H1 ρ2 S2 H2) (R2 : RelS G ρ2 S2 H2) (hF : ∀ a, ρ1.F a → F a ∨ a = D) (hF' : ∀ a, F a → ρ1.F a) (hD : ρ1.F D) (nD : ¬ F D) (hd : H1 D ≠ none) : Ext (ρ1.wF F) S1 H1 (ρ2.wF F) S2 H2 := by
  obtain ⟨t, et⟩ := e.pre
  have eF : ρ2.F = ρ1.F := by rw [et]; rfl
  refine ⟨⟨t, by rw [et]; rfl⟩, fun a q h s => ?_, fun a h => ?_, e.dom, fun a f h => e.res a (hF' a f) h⟩
  · by_cases z : a = D
    · subst z
      rw [e.res a hD hd]
      exact h
    · refine e.keep a q h fun l => s ?_
      rcases l with f | l
      · rcases hF a f with f | f
        · exact .inl f
        · exact absurd f z
      · exact .inr l
  · have hl : Live ρ2 S2 a := by
      rcases h with f | l
      · exact .inl (by rw [eF]; exact hF' a f)
      · exact .inr l
    rcases e.new a hl with l | z
    · rcases l with f | l
      · rcases hF a f with f | f
        · exact .inl (.inl f)
        · subst f
          exfalso
          rcases h with f | ⟨m, c, h1, h2, h3⟩
          · exact nD f
          · exact (R2.res a (by rw [eF]; exact hD)).2 (List.mem_of_getElem? h3)
      · exact .inl (.inr l)
    · exact .inr z
theorem Ext.updFresh (e : Ext ρ S H ρ1 S1 H1) (hD : H D = none) : Ext ρ S H ρ1 S1 (upd H1 D o) :=
  ⟨e.pre, fun a q h s => by rw [upd_ne (fun z => by rw [z, hD] at h; cases h)]; exact e.keep a q h s, e.new, fun a h => upd_dom (e.dom a h), fun a f h => by
    have ne : a ≠ D := fun z => h (by rw [z]; exact hD)
    rw [upd_ne ne]; exact e.res a f h⟩
/-- the state of a comprehension: acc stands at D -/
structure LS (G : Wd) (ρ1 : Rho) (S1 : Store) (H1 : Hp) (D : Addr) (ρ : Rho) (S : Store) (H : Hp) (acc : List RI.D) (av : List V) : Prop where
  ext : Ext ρ1 S1 H1 (ρ.wF ρ1.F) S H
  F : ρ.F = fun a => ρ1.F a ∨ a = D
  st : RelS G ρ S H
  at_ : H D = some (.lst av)
  rel : RelDs G (Live ρ S) H acc av
variable {acc : List RI.D} {av : List V}
theorem LS.start (R : RelS G ρ1 S1 H1) (hD : H1 D = none) : LS G ρ1 S1 H1 D (ρ1.aside D) S1 (upd H1 D (.lst [])) [] [] :=
  ⟨Ext.updFresh (D := D) (o := .lst []) (Ext.refl (ρ := ρ1)) hD, rfl, R.aside hD, upd_same .., .nil⟩
theorem LS.ek (R1 : RelS G ρ1 S1 H1) (hD : H1 D = none) (l : LS G ρ1 S1 H1 D ρ S H acc av) : EK ρ1 S1 H1 ρ S H := by
  refine ⟨⟨l.ext.keep, fun a h => ?_⟩, ?_, l.ext.dom⟩
  · by_cases z : a = D
    · exact .inr (z ▸ hD)
    · refine l.ext.new a ?_
      rcases h with f | h
      · rw [l.F] at f
        rcases f with f | f
        · exact .inl f
        · exact absurd f z
      · exact .inr h
  · obtain ⟨t, e⟩ := l.ext.pre
    exact ⟨t, congrArg Rho.l e⟩
/-- a step that leaves acc -/
theorem LS.step (R1 : RelS G ρ1 S1 H1) (hD : H1 D = none) (l : LS G ρ1 S1 H1 D ρ S H acc av) (e : Ext ρ S H ρ2 S2 H2) (R2 : RelS G ρ2 S2 H2) : LS G ρ1 S1 H1 D ρ2 S2 H2 acc av := by
  have hF : ρ.F D := by rw [l.F]; exact .inr rfl
  have nD : ¬ ρ1.F D := fun f => (R1.res D f).1 hD
  have hd : H D ≠ none := by rw [l.at_]; simp
  have e2 := e.unaside (F := ρ1.F) R2 (fun a f => by rw [l.F] at f; exact f) (fun a f => by rw [l.F]; exact .inl f) hF nD hd
  refine ⟨l.ext.trans e2, ?_, R2, ?_, l.rel.mono e.kp⟩
  · obtain ⟨t, et⟩ := e.pre
    rw [et]
    exact l.F
  · rw [e.res D hF hd]
    exact l.at_
theorem LS.app {x : RI.D} {v : V} (R1 : RelS G ρ1 S1 H1) (hD : H1 D = none) (l : LS G ρ1 S1 H1 D ρ S H acc av) (r : RelD G (Live ρ S) H x v) : LS G ρ1 S1 H1 D ρ S (upd H D (.lst (av ++ [v]))) (acc ++ [x]) (av ++ [v]) := by
  have hF : ρ.F D := by rw [l.F]; exact .inr rfl
  have k : Kp (Live ρ S) H (Live ρ S) (upd H D (.lst (av ++ [v]))) := kp_write hF l.at_
  exact ⟨l.ext.updFresh hD, l.F, l.st.write hF l.at_, upd_same .., (l.rel.mono k).append (.cons (r.mono k) .nil)⟩
/-- the list is done -/
theorem LS.done (R1 : RelS G ρ1 S1 H1) (hD : H1 D = none) (l : LS G ρ1 S1 H1 D ρ S H acc av) : RelS G (ρ.wF ρ1.F) S H ∧ RelD G (Live (ρ.wF ρ1.F) S) H (.lst acc) (.ref D) := by
  have hF : ρ.F D := by rw [l.F]; exact .inr rfl
  have hF' : ∀ a, ρ1.F a → ρ.F a := fun a f => by rw [l.F]; exact .inl f
  have k : Kp (Live ρ S) H (Live (ρ.wF ρ1.F) S) H := ⟨fun _ _ h _ => h, fun a h => .inl (by
    rcases h with f | z
    · exact .inl (hF' a f)
    · exact .inr z)⟩
  refine ⟨l.st.unres hF', .lst l.at_ ?_ (l.rel.mono k)⟩
  rintro (f | ⟨m, c, h1, h2, h3⟩)
  · exact (R1.res D f).1 hD
  · exact (l.st.res D hF).2 (List.mem_of_getElem? h3)
/-- the list is done, and gets a cell -/
theorem LS.doneT (R1 : RelS G ρ1 S1 H1) (hD : H1 D = none) (l : LS G ρ1 S1 H1 D ρ S H acc av) : Ext ρ1 S1 H1 ((ρ.wF ρ1.F).app [D]) (S ++ [.lst acc]) H ∧ RelS G ((ρ.wF ρ1.F).app [D]) (S ++ [.lst acc]) H ∧ ((ρ.wF ρ1.F).app [D]).l[S.length]? = some D := by
  have hF : ρ.F D := by rw [l.F]; exact .inr rfl
  have hF' : ∀ a, ρ1.F a → ρ.F a := fun a f => by rw [l.F]; exact .inl f
  have hnot : D ∉ ρ.l := (l.st.res D hF).2
  have hl : ((ρ.wF ρ1.F).app [D]).l = ρ.l ++ [D] := rfl
  have up : ∀ a, Live ((ρ.wF ρ1.F).app [D]) (S ++ [.lst acc]) a → Live ρ S a := fun a h => by
    rcases h with f | ⟨m, c, h1, h2, h3⟩
    · exact .inl (hF' a f)
    · by_cases hm : m < S.length
      · rw [List.getElem?_append_left hm] at h1
        rw [hl, List.getElem?_append_left (by rw [l.st.len]; exact hm)] at h3
        exact .inr ⟨m, c, h1, h2, h3⟩
      · rw [hl, List.getElem?_append_right (by rw [l.st.len]; omega)] at h3
        cases hk : m - ρ.l.length with
        | zero => rw [hk] at h3; simp at h3; subst h3; exact .inl hF
        | succ q => rw [hk] at h3; simp at h3
  have k : Kp (Live ρ S) H (Live ((ρ.wF ρ1.F).app [D]) (S ++ [.lst acc])) H := ⟨fun _ _ h _ => h, fun a h => .inl (up a h)⟩
  refine ⟨?_, ⟨?_, ?_, ?_, ?_, ?_⟩, ?_⟩
  · obtain ⟨t, et⟩ := l.ext.pre
    refine ⟨⟨t ++ [D], by rw [et, Rho.app_app]⟩, l.ext.keep, fun a h => ?_, l.ext.dom, l.ext.res⟩
    by_cases z : a = D
    · exact .inr (z ▸ hD)
    · refine l.ext.new a ?_
      rcases h with f | ⟨m, c, h1, h2, h3⟩
      · exact .inl f
      · by_cases hm : m < S.length
        · rw [List.getElem?_append_left hm] at h1
          rw [hl, List.getElem?_append_left (by rw [l.st.len]; exact hm)] at h3
          exact .inr ⟨m, c, h1, h2, h3⟩
        · rw [hl, List.getElem?_append_right (by rw [l.st.len]; omega)] at h3
          cases hk : m - ρ.l.length with
          | zero => rw [hk] at h3; simp at h3; exact absurd h3.symm z
          | succ q => rw [hk] at h3; simp at h3
  · rw [hl]; simp [l.st.len]
  · rw [hl, List.nodup_append]
    refine ⟨l.st.nd, by simp, fun a ha b hb => ?_⟩
    simp at hb
    subst hb
    intro e
    subst e
    exact hnot ha
  · intro m c a h1 h3
    by_cases hm : m < S.length
    · rw [List.getElem?_append_left hm] at h1
      rw [hl, List.getElem?_append_left (by rw [l.st.len]; exact hm)] at h3
      exact RelC.monoF (ρ := ρ) (ρ1 := (ρ.wF ρ1.F).app [D]) (fun _ h => h) k ⟨[D], rfl⟩ (l.st.cell m c a h1 h3)
    · rw [List.getElem?_append_right (by omega)] at h1
      rw [hl, List.getElem?_append_right (by rw [l.st.len]; omega)] at h3
      have e0 : m - S.length = 0 := by
        cases hk : m - S.length with
        | zero => rfl
        | succ q => rw [hk] at h1; simp at h1
      rw [e0] at h1
      rw [l.st.len, e0] at h3
      simp at h1 h3
      subst h1 h3
      exact .lst l.at_ (l.rel.mono k)
  · intro a ha
    rw [hl, List.mem_append] at ha
    rcases ha with ha | ha
    · exact l.st.dom a ha
    · simp at ha; subst ha; rw [l.at_]; simp
  · intro a f
    refine ⟨(l.st.res a (hF' a f)).1, fun ha => ?_⟩
    rw [hl, List.mem_append] at ha
    rcases ha with ha | ha
    · exact (l.st.res a (hF' a f)).2 ha
    · simp at ha; subst ha; exact (R1.res _ f).1 hD
  · rw [hl, List.getElem?_append_right (by rw [l.st.len]; omega)]
    simp [l.st.len]
theorem Sat.rebase {α β : Type} {W1 W2 : XK} {r : Res α} {f : α → Store → Res β} {P : β → Rho → Store → Hp → Prop} (h : Sat G W1 ρ S H ((noExc r).bind f) P) (ρ' : Rho) (S' : Store) (H' : Hp) :
    Sat G W2 ρ' S' H' (noExc r) fun a ρ2 S2 H2 => Ext ρ' S' H' ρ2 S2 H2 ∧ RelS G ρ2 S2 H2 ∧ Sat G W1 ρ S H (f a S2) P := by
  cases r with
  | ok a S0 => exact fun ρ2 H2 e R => ⟨e, R, h⟩
  | exc c fs S0 => exact h
  | stk => exact h
end
/-- no error is taken here -/
abbrev noW : L2.WX := fun _ _ _ _ => False
section
variable {G : Wd} {Wx : L2.WX} {C : Ctx} {k : Nat} {X : Cx} {pos p p2 apos tpos : Pos} {x : Str} {i : Nat} {a b c e o tg : Expr} {ia ib ie io ii : IE}
theorem Sd.blk (S : Sd G Wx C k X) (s : Shared) (H : Hp) (scope : Scope) (cenv : PySem.Env) (fp : List Addr) : Sd G noW C k (X.blk s H scope cenv fp) :=
  { hK := S.hK, nd := S.nd, tk := takes0, un := S.un, room := S.room, gd := S.gd, fok := fun f fd h => ⟨(S.fok f fd h).ex, (S.fok f fd h).kp⟩, fmg := S.fmg, cmg := S.cmg, bmg := S.bmg, cst := S.cst, tab := S.tab, mth := S.mth, clf := S.clf, exf := S.exf, mkf := S.mkf, eqm := S.eqm, nmI := S.nmI, kit := S.kit }
/-- the comprehension's own turn -/
theorem lc_turn {t : IT} {io : IO} {own : List Nat} {ρ1 ρ : Rho} {S1 S : Store} {H1 H H2 : Hp} {D : Addr} {acc : List RI.D} {av : List V} {W1 : XK} {P : W → Rho → Store → Hp → Prop} {fin : List RI.D → Store → Res W} {η : Env} {σ : L2.St} {x : RI.D} {v : V} {Nx : Hp → Prop}
    (hown : ∀ j ∈ IT.names t, j ∈ own) (R1 : RelS G ρ1 S1 H1) (hD : H1 D = none) (l : LS G ρ1 S1 H1 D ρ S H acc av) (e : Ext ρ S H ρ S H2) (R2 : RelS G ρ S H2) (rx : RelD G (Live ρ S) H2 x v)
    (RA : RelAll G none ρ (wipeE η own) S (wipe σ own) H)
    (h : Sat G W1 ρ1 S1 H1 (noExc ((lcTurn (setT C t) (evalC C io) (evalP C ie).1 (wipeE η own) x acc S).bind fin)) P)
    (next : ∀ acc' av' ρ' S' H', LS G ρ1 S1 H1 D ρ' S' H' acc' av' → RelAll G none ρ' (wipeE η own) S' (wipe σ own) H' → Sat G W1 ρ1 S1 H1 (noExc (fin acc' S')) P → Nx H') :
    RdG G (IT.names t) (setT C t) v (wipe σ own) H2 fun σ2 H3 => wipe σ2 own = wipe σ own ∧ RdT G none noW (evalC C io) σ2 H3 fun b H4 =>
      if b = true then RE G none noW C ie σ2 H4 fun y H5 => ∃ ac, H5 D = some (.lst ac) ∧ ac.length < sizeLine ∧ Nx (upd H5 D (.lst (ac ++ [y]))) else Nx H4 := by
  have l2 := l.step R1 hD e R2
  unfold lcTurn at h
  rw [Res.bind_assoc, noExc_bind] at h
  refine ⟨ρ, wipeE η own, S, .d x, RA.mono e R2, .d rx, (h.rebase ρ S H2).mono fun η1 ρ3 S3 H3 _ _ ⟨e3, R3, h3⟩ σ2 RA3 sb => ?_⟩
  have hw : wipe σ2 own = wipe σ own := by
    have := sb own hown
    rw [this]
    apply List.ext_getElem?
    intro j
    rw [wipe_get, wipe_get]
    split
    · cases σ[j]? <;> rfl
    · rfl
  refine ⟨hw, ?_⟩
  have l3 := l2.step R1 hD e3 R3
  have RA' : RelAll G none ρ3 (wipeE η own) S3 (wipe σ own) H3 := (RA.mono e R2).mono e3 R3
  rw [Res.bind_assoc, noExc_bind] at h3
  refine ⟨ρ3, η1, S3, RA3, Sat.nx (W1 := noX) ((h3.rebase ρ3 S3 H3).mono fun b ρ4 S4 H4 _ _ ⟨e4, R4, h4⟩ => ?_)⟩
  have l4 := l3.step R1 hD e4 R4
  cases b with
  | false => exact next acc av ρ4 S4 H4 l4 (RA'.mono e4 R4) h4
  | true =>
    simp only [if_true] at h4 ⊢
    rw [Res.bind_assoc, noExc_bind] at h4
    refine ⟨ρ4, η1, S4, RA3.mono e4 R4, Sat.nx (W1 := noX) ((h4.rebase ρ4 S4 H4).mono fun w ρ5 S5 H5 _ _ ⟨e5, R5, h5⟩ y ry => ?_)⟩
    have l5 := l4.step R1 hD e5 R5
    rw [Res.bind_assoc, noExc_bind] at h5
    rcases toD_cases w S5 with ⟨z, S6, ez⟩ | ez
    · rw [ez, noExc_ok, Res.bind_ok] at h5
      obtain ⟨e6, R6, rz⟩ := toD_ok R5 ry ez
      have l6 := l5.step R1 hD e6 R6
      split at h5
      · next hlen =>
        rw [Res.bind_ok] at h5
        have l7 := l6.app R1 hD rz
        refine ⟨av, l6.at_, by rw [← l6.rel.length, ← line_eq]; exact hlen, next (acc ++ [z]) (av ++ [y]) ρ5 S6 _ l7 ?_ h5⟩
        have RA6 : RelAll G none ρ5 (wipeE η own) S6 (wipe σ own) H5 := ((RA'.mono e4 R4).mono e5 R5).mono e6 R6
        have hF : ρ5.F D := by rw [l6.F]; exact .inr rfl
        exact ⟨l7.st, RA6.len, fun i w hi => let ⟨u, e1, r⟩ := RA6.slot i w hi; ⟨u, e1, r.monoF (kp_write hF l6.at_) ⟨[], by simp⟩⟩⟩
      · exact h5.elim
    · rw [ez] at h5
      exact h5.elim
/-- PTs of the written tests -/
theorem c_none : PTs X [] (RdT G none Wx (evalC C .no)) := ⟨fun pins s σ H Q I ⟨ρ, η, St, R, h⟩ => pts_nil.run pins s σ H Q I ((show Sat _ _ _ _ _ (.ok true St) _ from h).now R.st)⟩
theorem c_one (h : PT X c (RT G none Wx C ic)) : PTs X [c] (RdT G none Wx (evalC C (.yes ic))) := pts_one h
/-- the loop of a comprehension -/
theorem lc_loop {t : IT} {io : IO} {it : II} {own : List Nat} {σ : L2.St} {H : Hp} {Q : VK} (th : Bool) (hown : ∀ j ∈ IT.names t, j ∈ own)
    (hq : RdE G none Wx (fun η S => noExc ((evalI C it η S).bind fun src S1 => (lcSrc (setT C t) (evalC C io) (evalP C ie).1 (wipeE η own) src S1).bind (finS th))) σ H Q) :
    tLc (RdI G Wx (evalI C it)) (RdG G (IT.names t) (setT C t)) (RdT G none noW (evalC C io)) (RE G none noW C ie) own σ H Q := by
  obtain ⟨ρ, η, St, R, h⟩ := hq
  replace h : Sat G (fun c d H => Wx c d σ H) ρ St H (noExc ((evalI C it η St).bind fun src S1 => (lcSrc (setT C t) (evalC C io) (evalP C ie).1 (wipeE η own) src S1).bind (finS th))) _ := h
  rw [noExc_bind] at h
  refine ⟨ρ, η, St, R, Sat.nx (W1 := noX) ((h.rebase ρ St H).mono fun src ρ1 S1 H1 _ _ ⟨e1, R1, h1⟩ J hJ D hD => ?_)⟩
  replace h1 : Sat G (fun c d H => Wx c d σ H) ρ1 S1 H1 (noExc ((lcSrc (setT C t) (evalC C io) (evalP C ie).1 (wipeE η own) src S1).bind (finS th))) (fun w ρ' S' H' => ∀ v, RelW G none (Live ρ' S') ρ' H' w v → Q v H') := by
    revert h1
    generalize noExc _ = r
    intro h1
    cases r with
    | ok a S' => exact h1.from e1
    | exc c fs S' => exact h1.from e1
    | stk => exact h1
  have RA1 : RelAll G none ρ1 (wipeE η own) S1 (wipe σ own) H1 := (R.mono e1 R1).wipe own
  have RA0 : RelAll G none (ρ1.aside D) (wipeE η own) S1 (wipe σ own) (upd H1 D (.lst [])) :=
    ⟨R1.aside hD, RA1.len, fun i w hi => let ⟨u, eu, r⟩ := RA1.slot i w hi; ⟨u, eu, r.monoF (kp_aside hD) ⟨[], by simp [Rho.aside]⟩⟩⟩
  have l0 : LS G ρ1 S1 H1 D (ρ1.aside D) S1 (upd H1 D (.lst [])) [] [] := LS.start R1 hD
  have fin : ∀ {acc : List RI.D} {av : List V} {ρ' : Rho} {S' : Store} {H' : Hp}, LS G ρ1 S1 H1 D ρ' S' H' acc av → Sat G (fun c d H => Wx c d σ H) ρ1 S1 H1 (noExc (finS th acc S')) (fun w ρ' S' H' => ∀ v, RelW G none (Live ρ' S') ρ' H' w v → Q v H') → Q (.ref D) H' := by
    intro acc av ρ' S' H' l hs
    cases th with
    | false =>
      obtain ⟨d1, d2⟩ := l.done R1 hD
      exact hs _ _ l.ext d1 _ (.d d2)
    | true =>
      obtain ⟨d0, d1, d2⟩ := l.doneT R1 hD
      exact hs _ _ d0 d1 _ (.loc d2)
  cases src with
  | fix xs =>
    refine ⟨fun i m H' => m = xs.length - i ∧ i ≤ xs.length ∧ ∃ acc av ρ' S', LS G ρ1 S1 H1 D ρ' S' H' acc av ∧ RelAll G none ρ' (wipeE η own) S' (wipe σ own) H' ∧
      Sat G (fun c d H => Wx c d σ H) ρ1 S1 H1 (noExc ((lcFix (setT C t) (evalC C io) (evalP C ie).1 (wipeE η own) (xs.drop i) acc S').bind (finS th))) (fun w ρ' S' H' => ∀ v, RelW G none (Live ρ' S') ρ' H' w v → Q v H'),
      ⟨_, rfl, Nat.zero_le _, [], [], ρ1.aside D, S1, l0, RA0, h1⟩, ?_⟩
    rintro i m H' ⟨rfl, hi, acc, av, ρ', S', l, RA, hs⟩
    by_cases hlt : i < xs.length
    · right
      refine ⟨hJ.go i ρ' S' H' (l.ek R1 hD) l.st hlt, fun H'' => ∃ acc av ρ' S', LS G ρ1 S1 H1 D ρ' S' H'' acc av ∧ RelAll G none ρ' (wipeE η own) S' (wipe σ own) H'' ∧
        Sat G (fun c d H => Wx c d σ H) ρ1 S1 H1 (noExc ((lcFix (setT C t) (evalC C io) (evalP C ie).1 (wipeE η own) (xs.drop (i + 1)) acc S').bind (finS th))) (fun w ρ' S' H' => ∀ v, RelW G none (Live ρ' S') ρ' H' w v → Q v H'),
        fun H'' q => ⟨xs.length - (i + 1), by omega, rfl, hlt, q⟩, fun v H2 y => ?_⟩
      obtain ⟨e2, R2, rx⟩ := hJ.yld i xs[i] v ρ' S' H' H2 (l.ek R1 hD) l.st (List.getElem?_eq_getElem hlt) y
      rw [List.drop_eq_getElem_cons hlt] at hs
      unfold lcFix at hs
      rw [Res.bind_assoc] at hs
      exact lc_turn hown R1 hD l e2 R2 rx RA hs fun acc' av' ρ2 S2 H3 l2 RA2 h2 => ⟨acc', av', ρ2, S2, l2, RA2, h2⟩
    · left
      have hi' : i = xs.length := by omega
      subst hi'
      refine ⟨hJ.stop ρ' S' H' (l.ek R1 hD) l.st, fin l ?_⟩
      rw [List.drop_length] at hs
      exact hs
  | loc lc n =>
    refine ⟨fun i m H' => ∃ acc av ρ' S', LS G ρ1 S1 H1 D ρ' S' H' acc av ∧ RelAll G none ρ' (wipeE η own) S' (wipe σ own) H' ∧
      Sat G (fun c d H => Wx c d σ H) ρ1 S1 H1 (noExc ((lcLoc (setT C t) (evalC C io) (evalP C ie).1 (wipeE η own) lc m i acc S').bind (finS th))) (fun w ρ' S' H' => ∀ v, RelW G none (Live ρ' S') ρ' H' w v → Q v H'),
      ⟨n, [], [], ρ1.aside D, S1, l0, RA0, h1⟩, ?_⟩
    rintro i m H' ⟨acc, av, ρ', S', l, RA, hs⟩
    cases m with
    | zero =>
      left
      unfold lcLoc at hs
      split at hs
      · next ys hc =>
        split at hs
        · next hle => exact ⟨hJ.stop i ys ρ' S' H' (l.ek R1 hD) l.st hc hle, fin l hs⟩
        · exact hs.elim
      · exact hs.elim
    | succ m =>
      right
      unfold lcLoc at hs
      split at hs
      · next ys hc =>
        split at hs
        · next x hx =>
          refine ⟨hJ.go i ys x ρ' S' H' (l.ek R1 hD) l.st hc hx, fun H'' => ∃ acc av ρ' S', LS G ρ1 S1 H1 D ρ' S' H'' acc av ∧ RelAll G none ρ' (wipeE η own) S' (wipe σ own) H'' ∧
            Sat G (fun c d H => Wx c d σ H) ρ1 S1 H1 (noExc ((lcLoc (setT C t) (evalC C io) (evalP C ie).1 (wipeE η own) lc m (i + 1) acc S').bind (finS th))) (fun w ρ' S' H' => ∀ v, RelW G none (Live ρ' S') ρ' H' w v → Q v H'),
            fun H'' q => ⟨m, Nat.lt_succ_self _, q⟩, fun v H2 y => ?_⟩
          obtain ⟨e2, rx⟩ := hJ.yld i ys x v ρ' S' H' H2 (l.ek R1 hD) l.st hc hx y
          subst e2
          rw [Res.bind_assoc] at hs
          exact lc_turn hown R1 hD l Ext.refl l.st rx RA hs fun acc' av' ρ2 S2 H3 l2 RA2 h2 => ⟨acc', av', ρ2, S2, l2, RA2, h2⟩
        · exact hs.elim
      · exact hs.elim
theorem e_lc {t : IT} {io : IO} {it : II} {own : List (Str × Nat)} {vs : List Nat} {elt iter : Expr} {ifs : List Expr} {scope : Scope} (S : Sd G Wx C k X) (hcm : X.calm = true) (ok : BlkOk X.N X.env.scope scope own) (hvs : vs = own.map (·.2)) (hi : PI X tg iter (RdI G Wx (evalI C it)))
    (hg : ∀ (s : Shared) (H : Hp) (Cc : Addr) (cl : List (Str × Addr)) (fp : List Addr), Sd G noW C k (X.blk s H scope (compEnvC scope cl Cc X.env) fp) → PG (X.blk s H scope (compEnvC scope cl Cc X.env) fp) tg (RdG G (IT.names t) (setT C t)))
    (ht : ∀ (s : Shared) (H : Hp) (Cc : Addr) (cl : List (Str × Addr)) (fp : List Addr), Sd G noW C k (X.blk s H scope (compEnvC scope cl Cc X.env) fp) → PTs (X.blk s H scope (compEnvC scope cl Cc X.env) fp) ifs (RdT G none noW (evalC C io)))
    (he : ∀ (s : Shared) (H : Hp) (Cc : Addr) (cl : List (Str × Addr)) (fp : List Addr), Sd G noW C k (X.blk s H scope (compEnvC scope cl Cc X.env) fp) → PE (X.blk s H scope (compEnvC scope cl Cc X.env) fp) elt (RE G none noW C ie))
    (hown : ((IT.names t).all fun j => vs.contains j) = true := by rfl) (hs : ∀ x, foldedSetIterable iter X.env x = pure x := by intro _; rfl) :
    PE X (.ListComp elt [⟨tg, iter, ifs, 0⟩] scope pos) (RE G none Wx C (.lc ie vs t it io)) := by
  subst hvs
  exact (pe_lc hcm S.nd hi ok (fun s H Cc cl fp => hg s H Cc cl fp (S.blk ..)) (fun s H Cc cl fp => ht s H Cc cl fp (S.blk ..)) (fun s H Cc cl fp => he s H Cc cl fp (S.blk ..)) hs).of fun σ H Q h => lc_loop false (fun j hj => by
    have := List.all_eq_true.mp hown j hj
    simpa using this) h
theorem noExc_thaw {r : Res (List RI.D)} : (noExc (r.bind fun xs S2 => .ok (W.d (.lst xs)) S2)).bind thawD = noExc (r.bind (finS true)) := by cases r <;> rfl
theorem thaw_lc {t : IT} {io : IO} {it : II} {own : List Nat} {σ : L2.St} {H : Hp} {Q : VK} (hq : RE G none Wx C (.thaw (.lc ie own t it io)) σ H Q) :
    RdE G none Wx (fun η S => noExc ((evalI C it η S).bind fun src S1 => (lcSrc (setT C t) (evalC C io) (evalP C ie).1 (wipeE η own) src S1).bind (finS true))) σ H Q := by
  obtain ⟨ρ, η, St, R, h⟩ := hq
  refine ⟨ρ, η, St, R, ?_⟩
  replace h : Sat G (fun c d H => Wx c d σ H) ρ St H ((noExc ((evalI C it η St).bind fun src S1 => (lcSrc (setT C t) (evalC C io) (evalP C ie).1 (wipeE η own) src S1).bind fun xs S2 => .ok (W.d (.lst xs)) S2)).bind thawD) _ := h
  rw [← Res.bind_assoc, noExc_thaw, Res.bind_assoc] at h
  exact h
theorem e_lcT {t : IT} {io : IO} {it : II} {own : List (Str × Nat)} {vs : List Nat} {elt iter : Expr} {ifs : List Expr} {scope : Scope} (S : Sd G Wx C k X) (hcm : X.calm = true) (ok : BlkOk X.N X.env.scope scope own) (hvs : vs = own.map (·.2)) (hi : PI X tg iter (RdI G Wx (evalI C it)))
    (hg : ∀ (s : Shared) (H : Hp) (Cc : Addr) (cl : List (Str × Addr)) (fp : List Addr), Sd G noW C k (X.blk s H scope (compEnvC scope cl Cc X.env) fp) → PG (X.blk s H scope (compEnvC scope cl Cc X.env) fp) tg (RdG G (IT.names t) (setT C t)))
    (ht : ∀ (s : Shared) (H : Hp) (Cc : Addr) (cl : List (Str × Addr)) (fp : List Addr), Sd G noW C k (X.blk s H scope (compEnvC scope cl Cc X.env) fp) → PTs (X.blk s H scope (compEnvC scope cl Cc X.env) fp) ifs (RdT G none noW (evalC C io)))
    (he : ∀ (s : Shared) (H : Hp) (Cc : Addr) (cl : List (Str × Addr)) (fp : List Addr), Sd G noW C k (X.blk s H scope (compEnvC scope cl Cc X.env) fp) → PE (X.blk s H scope (compEnvC scope cl Cc X.env) fp) elt (RE G none noW C ie))
    (hown : ((IT.names t).all fun j => vs.contains j) = true := by rfl) (hs : ∀ x, foldedSetIterable iter X.env x = pure x := by intro _; rfl) :
    PE X (.ListComp elt [⟨tg, iter, ifs, 0⟩] scope pos) (RE G none Wx C (.thaw (.lc ie vs t it io))) := by
  subst hvs
  exact (pe_lc hcm S.nd hi ok (fun s H Cc cl fp => hg s H Cc cl fp (S.blk ..)) (fun s H Cc cl fp => ht s H Cc cl fp (S.blk ..)) (fun s H Cc cl fp => he s H Cc cl fp (S.blk ..)) hs).of fun σ H Q h => lc_loop true (fun j hj => by
    have := List.all_eq_true.mp hown j hj
    simpa using this) (thaw_lc h)
end
end RI
/-! RI15: statements. -/
namespace RI
open PySem PySem.Spec PyProof.Rows L2
def FlowOk (G : Wd) (ex : Ex) (D : Ends) (f : Flow) (ρ : Rho) (S : Store) (H : Hp) : Prop := match f with
  | .nx η => ∀ σ, RelAll G ex ρ η S σ H → D.nx σ H
  | .brk η => ∀ σ, RelAll G ex ρ η S σ H → D.bk σ H
  | .cont η => ∀ σ, RelAll G ex ρ η S σ H → D.ct σ H
  | .ret w => ∀ v, RelW G ex (Live ρ S) ρ H w v → D.rt v H
def RdS (G : Wd) (ex : Ex) (E : XK) (m : Env → Store → Res Flow) : TS := fun D σ H => ∃ ρ η S, RelAll G ex ρ η S σ H ∧ Sat G E ρ S H (m η S) (FlowOk G ex D)
abbrev RS (G : Wd) (E : XK) (C : Ctx) (s : IS) : TS := RdS G none E (execS C s)
abbrev RSs (G : Wd) (E : XK) (C : Ctx) (s : ISs) : TS := RdS G none E (execSs C s)
abbrev RSx (G : Wd) (ex : Ex) (E : XK) (C : Ctx) (s : IS) : TS := RdS G ex E (execS C s)
abbrev RSsx (G : Wd) (ex : Ex) (E : XK) (C : Ctx) (s : ISs) : TS := RdS G ex E (execSs C s)
theorem EK.ext {ρ ρ1 ρ2 : Rho} {S S1 S2 : Store} {H H1 H2 : Hp} (a : EK ρ S H ρ1 S1 H1) (b : Ext ρ1 S1 H1 ρ2 S2 H2) : EK ρ S H ρ2 S2 H2 := by
  obtain ⟨t, e⟩ := a.pre
  obtain ⟨u, e'⟩ := b.pre
  refine ⟨⟨fun x o h s => ?_, fun x h => ?_⟩, ⟨t ++ u, by rw [e']; show ρ1.l ++ u = _; rw [e, List.append_assoc]⟩, fun x h => b.dom x (a.dom x h)⟩
  · refine b.keep x o (a.kp.keep x o h s) fun h1 => ?_
    rcases a.kp.new x h1 with z | z
    · exact s z
    · rw [z] at h; cases h
  · rcases b.new x h with z | z
    · exact a.kp.new x z
    · right
      cases e : H x with
      | none => rfl
      | some o => exact absurd z (a.dom x (by rw [e]; simp))
/-- errors by class and heap alone -/
abbrev wE (E : XK) : L2.WX := fun c d _ H => E c d H
theorem fl {G : Wd} {ex : Ex} {E : XK} {ρ : Rho} {S : Store} {H : Hp} {D : Ends} {f : Flow} (R : RelS G ρ S H) (h : Sat G E ρ S H (.ok f S) (FlowOk G ex D)) : FlowOk G ex D f ρ S H := h.now R
section
variable {G : Wd} {ex : Ex} {E : XK} {C : Ctx} {k : Nat} {X : Cx} {pos p p2 apos tpos pos' : Pos} {x : Str} {i : Nat} {a b c e o tg : Expr} {ia ib ie io ii : IE} {st : Stmt} {sts : List Stmt} {is : IS} {iss : ISs}
theorem s_nil : PSs X [] (RSsx G ex E C .nil) := pss_nil.of fun D σ H ⟨ρ, η, St, R, h⟩ => (fl (f := .nx η) (E := E) R.st h) σ R
theorem s_cons (h1 : PS X st (RSx G ex E C is)) (h2 : PSs X sts (RSsx G ex E C iss)) : PSs X (st :: sts) (RSsx G ex E C (.cons is iss)) :=
  (pss_cons h1 h2).of fun D σ H ⟨ρ, η, St, R, h⟩ => by
    replace h : Sat G E ρ St H ((execS C is η St).bind fun f S1 => match f with
      | .nx η1 => execSs C iss η1 S1
      | f => .ok f S1) (FlowOk G ex D) := h
    refine ⟨ρ, η, St, R, h.bind.mono fun f ρ1 S1 H1 _ _ ⟨e1, R1, h1⟩ => ?_⟩
    cases f with
    | nx η1 => exact fun σ1 RA => ⟨ρ1, η1, S1, RA, h1⟩
    | brk η1 => exact fun σ RA => fl (E := E) (D := D) (f := .brk η1) R1 h1 σ RA
    | cont η1 => exact fun σ RA => fl (E := E) (D := D) (f := .cont η1) R1 h1 σ RA
    | ret w => exact fun v r => fl (E := E) (D := D) (f := .ret w) R1 h1 v r
/-- an expression, then the end -/
theorem rdS1 {m : Env → Store → Res W} {f : W → Store → Res Flow} {ρ : Rho} {S : Store} {H : Hp} {σ : L2.St} {η : Env} {D : Ends} {Q : VK} (R : RelAll G ex ρ η S σ H) (h : Sat G E ρ S H ((m η S).bind f) (FlowOk G ex D))
    (k : ∀ w v ρ1 S1 H1, RelAll G ex ρ1 η S1 σ H1 → Ext ρ S H ρ1 S1 H1 → RelW G ex (Live ρ1 S1) ρ1 H1 w v → Sat G E ρ1 S1 H1 (f w S1) (FlowOk G ex D) → Q v H1) : RdE G ex (wE E) m σ H Q := rd1 (Wx := wE E) R h k
theorem s_doc {j pos pos'} {s : Str} : PS X (.Expr (.Constant (.str s) j pos) pos') (RSx G ex E C .pass) := ps_doc.of fun D σ H ⟨ρ, η, St, R, h⟩ => (fl (f := .nx η) (E := E) R.st h) σ R
theorem s_pass : PS X (.Pass pos) (RSx G ex E C .pass) := ps_pass.of fun D σ H ⟨ρ, η, St, R, h⟩ => (fl (f := .nx η) (E := E) R.st h) σ R
theorem s_brk : PS X (.Break pos) (RSx G ex E C .brk) := ps_break.of fun D σ H ⟨ρ, η, St, R, h⟩ => (fl (f := .brk η) (E := E) R.st h) σ R
theorem s_cont : PS X (.Continue pos) (RSx G ex E C .cont) := ps_continue.of fun D σ H ⟨ρ, η, St, R, h⟩ => (fl (f := .cont η) (E := E) R.st h) σ R
theorem s_expr (he : PE X e (RE G ex (wE E) C ie)) (hs : swapsWith e none pos.line X.env = pure false := by rfl) : PS X (.Expr e pos) (RSx G ex E C (.expr ie)) :=
  (ps_expr he hs).of fun D σ H ⟨ρ, η, St, R, h⟩ => rdS1 (f := fun _ S1 => .ok (.nx η) S1) R h fun w v ρ1 S1 H1 R1 e1 r1 h1 => h1.now R1.st σ R1
theorem s_ret (he : PE X e (RE G ex (wE E) C ie)) : PS X (.Return (some e) pos) (RSx G ex E C (.ret ie)) :=
  (ps_ret he).of fun D σ H ⟨ρ, η, St, R, h⟩ => rdS1 (f := fun w S1 => .ok (.ret w) S1) R h fun w v ρ1 S1 H1 R1 e1 r1 h1 => h1.now R1.st v r1
theorem s_retN : PS X (.Return none pos) (RSx G ex E C .retN) := ps_retN.of fun D σ H ⟨ρ, η, St, R, h⟩ => (fl (f := .ret (.d .non)) (E := E) R.st h) _ (.d .non)
/-- never reached -/
theorem s_never (hc : C.P.cls[9999]? = none := by rfl) : PS X st (RSx G ex E C (.raise 9999 .nil)) := ps_never.of fun D σ H ⟨ρ, η, St, R, h⟩ => by
  replace h : Sat G E ρ St H (match C.P.cls[9999]? with
    | some k => match k.exc with
      | some fs => match fieldsOf fs [] with
        | some ds => .exc 9999 ds St
        | none => .stk
      | none => .stk
    | none => .stk) (FlowOk G ex D) := h
  rw [hc] at h
  exact h
theorem s_if {sa sb : List Stmt} {ja jb : ISs} (hc : PT X c (RT G ex (wE E) C ie)) (ha : PSs X sa (RSsx G ex E C ja)) (hb : PSs X sb (RSsx G ex E C jb)) : PS X (.If c sa sb pos) (RSx G ex E C (.ife ie ja jb)) :=
  (ps_if hc ha hb).of fun D σ H ⟨ρ, η, St, R, h⟩ => rd1t (Wx := wE E) (f := fun k S1 => if k = true then execSs C ja η S1 else execSs C jb η S1) R h fun z ρ1 S1 H1 R1 e1 h1 => by
    cases z with
    | true => exact ⟨ρ1, η, S1, R1, h1⟩
    | false => exact ⟨ρ1, η, S1, R1, h1⟩
theorem asg_of {t : IT} {D : Ends} {σ : L2.St} {H : Hp} (q : RS G E C (.asg t ie) D σ H) : tAsg (RE G none (wE E) C ie) (RdG G (IT.names t) (setT C t)) D σ H := by
  obtain ⟨ρ, η, St, R, h⟩ := q
  exact rdS1 (f := fun w S1 => (noExc (setT C t w η S1)).bind fun η1 S2 => .ok (.nx η1) S2) R h fun w v ρ1 S1 H1 R1 e1 r1 h1 =>
    ⟨ρ1, η, S1, w, R1, r1, (h1.bindN (W2 := noX)).mono fun η1 ρ2 S2 H2 _ _ ⟨e2, R2, h2⟩ σ' RA sb => h2.now R2 σ' RA⟩
theorem s_asg {t : IT} (he : PE X e (RE G none (wE E) C ie)) (hg : PG X tg (RdG G (IT.names t) (setT C t))) (hs : swapsWithSole [tg] e pos.line X.env = pure false := by rfl) (hw : swappedStores [tg] e X.env = pure none := by rfl) (h1 : (assignEach [tg] X.env).map (·.2) = [assign tg X.env] := by rfl) : PS X (.Assign [tg] e pos) (RS G E C (.asg t ie)) :=
  (ps_asg he hg hs hw h1).of fun D σ H q => asg_of q
theorem set_nm {D : Ends} {σ : L2.St} {H : Hp} {v : V} {K : St → Hp → Prop} (h : RdG G (IT.names (.nm i)) (setT C (.nm i)) v σ H K) : gName i v σ H K := by
  obtain ⟨ρ, η, St, w, R, r, h⟩ := h
  replace h : Sat G noX ρ St H (noExc (if i < η.length then .ok (η.set i (some w)) St else .stk)) _ := h
  split at h
  · next hl => exact h.now R.st _ (R.set r hl) (same_set i _)
  · exact h.elim
theorem set_nmx {D : Ends} {σ : L2.St} {H : Hp} {v : V} {w : W} {ρ : Rho} {S : Store} {η : Env} (R : RelAll G ex ρ η S σ H) (r : RelW G ex (Live ρ S) ρ H w v)
    (h : Sat G E ρ S H ((noExc (setT C (.nm i) w η S)).bind fun η1 S2 => .ok (.nx η1) S2) (FlowOk G ex D)) : gName i v σ H D.nx := by
  replace h : Sat G E ρ S H ((noExc (if i < η.length then .ok (η.set i (some w)) S else .stk)).bind fun η1 S2 => .ok (.nx η1) S2) (FlowOk G ex D) := h
  split at h
  · next hl => exact h.now R.st _ (R.set r hl)
  · exact h.elim
theorem s_set (S : Sd G (wE E) C k X) (hi : X.N[i]? = some x) (hx : Loc X.env.scope x) (he : PE X e (RE G ex (wE E) C ie)) (hs : swapsWith e (some (.Name x pos')) pos.line X.env = pure false := by rfl)
    (hf : X.fn x = true ∨ X.env.scope.names.lookup x = some .local := by first | exact .inl rfl | exact .inr rfl | assumption) : PS X (.Assign [.Name x pos'] e pos) (RSx G ex E C (.asg (.nm i) ie)) :=
  (ps_set S.nd hi hx he hs hf).of fun D σ H ⟨ρ, η, St, R, h⟩ => rdS1 (f := fun w S1 => (noExc (setT C (.nm i) w η S1)).bind fun η1 S2 => .ok (.nx η1) S2) R h fun w v ρ1 S1 H1 R1 e1 r1 h1 =>
    set_nmx (D := D) R1 r1 h1
/-- name = [..] on one line -/
theorem s_setLc {t : IT} {io : IO} {it : II} {own : List (Str × Nat)} {vs : List Nat} {elt iter : Expr} {ifs : List Expr} {scope : Scope} {y : Str} {py spos : Pos} (S : Sd G (wE E) C k X) (hcm : X.calm = true) (hy : X.N[i]? = some y) (hyl : X.env.scope.names.lookup y = some .local)
    (hsw : swapsWith (.ListComp elt [⟨tg, iter, ifs, 0⟩] scope pos) (some (.Name y py)) spos.line X.env = pure true)
    (ok : BlkOk X.N X.env.scope scope own) (hvs : vs = own.map (·.2)) (hi : PI X tg iter (RdI G (wE E) (evalI C it)))
    (hg : ∀ (s : Shared) (H : Hp) (Cc : Addr) (cl : List (Str × Addr)) (fp : List Addr), Sd G noW C k (X.blk s H scope (compEnvC scope cl Cc X.env) fp) → PG (X.blk s H scope (compEnvC scope cl Cc X.env) fp) tg (RdG G (IT.names t) (setT C t)))
    (ht : ∀ (s : Shared) (H : Hp) (Cc : Addr) (cl : List (Str × Addr)) (fp : List Addr), Sd G noW C k (X.blk s H scope (compEnvC scope cl Cc X.env) fp) → PTs (X.blk s H scope (compEnvC scope cl Cc X.env) fp) ifs (RdT G none noW (evalC C io)))
    (he : ∀ (s : Shared) (H : Hp) (Cc : Addr) (cl : List (Str × Addr)) (fp : List Addr), Sd G noW C k (X.blk s H scope (compEnvC scope cl Cc X.env) fp) → PE (X.blk s H scope (compEnvC scope cl Cc X.env) fp) elt (RE G none noW C ie))
    (hown : ((IT.names t).all fun j => vs.contains j) = true := by rfl) (hs : ∀ x, foldedSetIterable iter X.env x = pure x := by intro _; rfl) :
    PS X (.Assign [.Name y py] (.ListComp elt [⟨tg, iter, ifs, 0⟩] scope pos) spos) (RS G E C (.asg (.nm i) (.lc ie vs t it io))) := by
  subst hvs
  refine (ps_setLc hcm S.nd hy hyl hsw hi ok (fun s H Cc cl fp => hg s H Cc cl fp (S.blk ..)) (fun s H Cc cl fp => ht s H Cc cl fp (S.blk ..)) (fun s H Cc cl fp => he s H Cc cl fp (S.blk ..)) hs).of fun D σ H q => ?_
  obtain ⟨ρ, η, St, R, h⟩ := q
  refine lc_loop (Wx := wE E) false (fun j hj => by
    have := List.all_eq_true.mp hown j hj
    simpa using this) (rdS1 (f := fun w S1 => (noExc (setT C (.nm i) w η S1)).bind fun η1 S2 => .ok (.nx η1) S2) R h fun w v ρ1 S1 H1 R1 e1 r1 h1 =>
    set_nm (D := D) ⟨ρ1, η, S1, w, R1, r1, (h1.bindN (W2 := noX)).mono fun η1 ρ2 S2 H2 _ _ ⟨e2, R2, h2⟩ σ' RA sb => h2.now R2 σ' RA⟩)
theorem s_setLcT {t : IT} {io : IO} {it : II} {own : List (Str × Nat)} {vs : List Nat} {elt iter : Expr} {ifs : List Expr} {scope : Scope} {y : Str} {py spos : Pos} (S : Sd G (wE E) C k X) (hcm : X.calm = true) (hy : X.N[i]? = some y) (hyl : X.env.scope.names.lookup y = some .local)
    (hsw : swapsWith (.ListComp elt [⟨tg, iter, ifs, 0⟩] scope pos) (some (.Name y py)) spos.line X.env = pure true)
    (ok : BlkOk X.N X.env.scope scope own) (hvs : vs = own.map (·.2)) (hi : PI X tg iter (RdI G (wE E) (evalI C it)))
    (hg : ∀ (s : Shared) (H : Hp) (Cc : Addr) (cl : List (Str × Addr)) (fp : List Addr), Sd G noW C k (X.blk s H scope (compEnvC scope cl Cc X.env) fp) → PG (X.blk s H scope (compEnvC scope cl Cc X.env) fp) tg (RdG G (IT.names t) (setT C t)))
    (ht : ∀ (s : Shared) (H : Hp) (Cc : Addr) (cl : List (Str × Addr)) (fp : List Addr), Sd G noW C k (X.blk s H scope (compEnvC scope cl Cc X.env) fp) → PTs (X.blk s H scope (compEnvC scope cl Cc X.env) fp) ifs (RdT G none noW (evalC C io)))
    (he : ∀ (s : Shared) (H : Hp) (Cc : Addr) (cl : List (Str × Addr)) (fp : List Addr), Sd G noW C k (X.blk s H scope (compEnvC scope cl Cc X.env) fp) → PE (X.blk s H scope (compEnvC scope cl Cc X.env) fp) elt (RE G none noW C ie))
    (hown : ((IT.names t).all fun j => vs.contains j) = true := by rfl) (hs : ∀ x, foldedSetIterable iter X.env x = pure x := by intro _; rfl) :
    PS X (.Assign [.Name y py] (.ListComp elt [⟨tg, iter, ifs, 0⟩] scope pos) spos) (RS G E C (.asg (.nm i) (.thaw (.lc ie vs t it io)))) := by
  subst hvs
  refine (ps_setLc hcm S.nd hy hyl hsw hi ok (fun s H Cc cl fp => hg s H Cc cl fp (S.blk ..)) (fun s H Cc cl fp => ht s H Cc cl fp (S.blk ..)) (fun s H Cc cl fp => he s H Cc cl fp (S.blk ..)) hs).of fun D σ H q => ?_
  obtain ⟨ρ, η, St, R, h⟩ := q
  refine lc_loop (Wx := wE E) true (fun j hj => by
    have := List.all_eq_true.mp hown j hj
    simpa using this) (thaw_lc (rdS1 (f := fun w S1 => (noExc (setT C (.nm i) w η S1)).bind fun η1 S2 => .ok (.nx η1) S2) R h fun w v ρ1 S1 H1 R1 e1 r1 h1 =>
    set_nm (D := D) ⟨ρ1, η, S1, w, R1, r1, (h1.bindN (W2 := noX)).mono fun η1 ρ2 S2 H2 _ _ ⟨e2, R2, h2⟩ σ' RA sb => h2.now R2 σ' RA⟩))
theorem s_par {j : Nat} {y : Str} {px py pt : Pos} {kt k2 pt2} {es : IEs} (S : Sd G (wE E) C k X) (hcm : X.calm = true) (hi : X.N[i]? = some x) (hj : X.N[j]? = some y) (ha : PA X [a, b] (REs G none (wE E) C es))
    (hx : X.env.scope.names.lookup x = some .local := by rfl) (hy : X.env.scope.names.lookup y = some .local := by rfl) (hij : i ≠ j := by decide)
    (hw : swappedStores [.Tuple [.Name x px, .Name y py] kt pt] (.Tuple [a, b] k2 pt2) X.env = pure (some [x, y]) := by rfl)
    (hs : swapsWithSole [.Tuple [.Name x px, .Name y py] kt pt] (.Tuple [a, b] k2 pt2) pos.line X.env = pure false := by rfl) :
    PS X (.Assign [.Tuple [.Name x px, .Name y py] kt pt] (.Tuple [a, b] k2 pt2) pos) (RS G E C (.par [i, j] es)) :=
  (ps_par hcm S.nd hi hj hij hx hy ha hw hs).of fun D σ H ⟨ρ, η, St, R, h⟩ => rd1s (Wx := wE E) (f := fun ws S1 => (ofO (setNs [i, j] ws η) S1).bind fun η1 S2 => Res.ok (Flow.nx η1) S2) R h fun ws vs ρ1 S1 H1 R1 e1 r1 h1 => by
    obtain ⟨η1, e, h2⟩ := h1.ofO_bind
    cases r1 with
    | nil => cases e
    | cons ra rb =>
      cases rb with
      | nil =>
        unfold setNs at e
        split at e <;> cases e
      | cons rb rc =>
        cases rc with
        | nil =>
          unfold setNs at e
          split at e
          · next h1 =>
            unfold setNs at e
            split at e
            · next h2' =>
              cases e
              exact ⟨_, _, rfl, h2.now R1.st _ ((R1.set ra h1).set rb h2')⟩
            · cases e
          · cases e
        | cons _ _ =>
          unfold setNs at e
          split at e
          · unfold setNs at e
            split at e <;> cases e
          · cases e
/-! ### loops -/
theorem s_while {body : List Stmt} {jb : ISs} (hp : PassesOwn (model X.prog X.w) X.A X.env X.xe) (hc : PT X c (RT G none (wE E) C ie)) (hb : PSs X body (RSs G E C jb)) : PS X (.While c body [] pos) (RS G E C (.whl ie jb)) :=
  (ps_while hp hc hb).of fun D σ H ⟨ρ, η, St, R, h⟩ => by
    replace h : Sat G E ρ St H (whileL (evalT C ie) (execSs C jb) C.fu η St) (FlowOk G none D) := h
    refine ⟨fun m σ H => ∃ ρ η S, RelAll G none ρ η S σ H ∧ Sat G E ρ S H (whileL (evalT C ie) (execSs C jb) m η S) (FlowOk G none D), ⟨C.fu, ρ, η, St, R, h⟩, ?_⟩
    rintro m σ H ⟨ρ, η, S, R, h⟩
    cases m with
    | zero => exact h.elim
    | succ m =>
      unfold whileL at h
      refine rd1t (Wx := wE E) (m := evalT C ie) R h fun z ρ1 S1 H1 R1 e1 h1 => ?_
      cases z with
      | false =>
        simp only [Bool.false_eq_true, if_false] at h1 ⊢
        exact h1.now R1.st σ R1
      | true =>
        simp only [if_true] at h1 ⊢
        refine ⟨fun σ H => ∃ ρ η S, RelAll G none ρ η S σ H ∧ Sat G E ρ S H (whileL (evalT C ie) (execSs C jb) m η S) (FlowOk G none D), fun σ' H' q => ⟨m, Nat.lt_succ_self _, q⟩, ρ1, η, S1, R1, h1.bind.mono fun f ρ2 S2 H2 _ _ ⟨e2, R2, h2⟩ => ?_⟩
        cases f with
        | nx η2 => exact fun σ2 RA => ⟨ρ2, η2, S2, RA, h2⟩
        | cont η2 => exact fun σ2 RA => ⟨ρ2, η2, S2, RA, h2⟩
        | brk η2 => exact fun σ2 RA => h2.now R2 σ2 RA
        | ret w => exact fun v r => h2.now R2 v r
theorem s_for {t : IT} {it : II} {iter : Expr} {body : List Stmt} {jb : ISs} (S : Sd G (wE E) C k X) (hcm : X.calm = true) (hp : PassesOwn (model X.prog X.w) X.A X.env X.xe) (hi : PI X tg iter (RdI G (wE E) (evalI C it))) (hg : PG X tg (RdG G (IT.names t) (setT C t))) (hb : PSs X body (RSs G E C jb))
    (hs : ∀ x, foldedSetIterable iter X.env x = pure x := by intro _; rfl) : PS X (.For tg iter body [] pos) (RS G E C (.for_ t it jb)) :=
  (ps_for hp hcm hi hg hb hs).of fun D σ H ⟨ρ, η, St, R, h⟩ => by
    replace h : Sat G E ρ St H ((evalI C it η St).bind fun src S1 => forSrc (setT C t) (execSs C jb) src η S1) (FlowOk G none D) := h
    refine ⟨ρ, η, St, R, h.bind.mono fun src ρ1 S1 H1 _ _ ⟨e1, R1, h1⟩ J hJ => ?_⟩
    have RA1 := R.mono e1 R1
    cases src with
    | fix xs =>
      refine ⟨fun i m σ H => m = xs.length - i ∧ i ≤ xs.length ∧ ∃ ρ η S, EK ρ1 S1 H1 ρ S H ∧ RelAll G none ρ η S σ H ∧ Sat G E ρ S H (forFix (setT C t) (execSs C jb) (xs.drop i) η S) (FlowOk G none D),
        ⟨_, rfl, Nat.zero_le _, ρ1, η, S1, Ext.refl.ek, RA1, h1⟩, ?_⟩
      rintro i m σ H ⟨rfl, hi, ρ, η, S, ek, R, h⟩
      by_cases hlt : i < xs.length
      · right
        refine ⟨hJ.go i ρ S H ek R.st hlt, fun σ H => ∃ ρ η S, EK ρ1 S1 H1 ρ S H ∧ RelAll G none ρ η S σ H ∧ Sat G E ρ S H (forFix (setT C t) (execSs C jb) (xs.drop (i + 1)) η S) (FlowOk G none D),
          fun σ' H' q => ⟨xs.length - (i + 1), by omega, rfl, hlt, q⟩, fun v H2 y => ?_⟩
        obtain ⟨e2, R2, rx⟩ := hJ.yld i xs[i] v ρ S H H2 ek R.st (List.getElem?_eq_getElem hlt) y
        rw [List.drop_eq_getElem_cons hlt] at h
        unfold forFix at h
        have RA2 := R.mono e2 R2
        refine ⟨ρ, η, S, .d xs[i], RA2, .d rx, ((Sat.from e2 h).bindN (W2 := noX)).mono fun η3 ρ3 S3 H3 _ _ ⟨e3, R3, h3⟩ σ3 RA3 sb => ?_⟩
        have ek3 : EK ρ1 S1 H1 ρ3 S3 H3 := (ek.ext e2).ext e3
        refine ⟨ρ3, η3, S3, RA3, h3.bind.mono fun f ρ4 S4 H4 _ _ ⟨e4, R4, h4⟩ => ?_⟩
        have ek4 := ek3.ext e4
        cases f with
        | nx η4 => exact fun σ4 RA4 => ⟨ρ4, η4, S4, ek4, RA4, h4⟩
        | cont η4 => exact fun σ4 RA4 => ⟨ρ4, η4, S4, ek4, RA4, h4⟩
        | brk η4 => exact fun σ4 RA4 => h4.now R4 σ4 RA4
        | ret w => exact fun v r => h4.now R4 v r
      · left
        have hi' : i = xs.length := by omega
        subst hi'
        rw [List.drop_length] at h
        exact ⟨hJ.stop ρ S H ek R.st, (show Sat G E ρ S H (.ok (.nx η) S) (FlowOk G none D) from h).now R.st σ R⟩
    | loc l n =>
      refine ⟨fun i m σ H => ∃ ρ η S, EK ρ1 S1 H1 ρ S H ∧ RelAll G none ρ η S σ H ∧ Sat G E ρ S H (forLoc (setT C t) (execSs C jb) l m i η S) (FlowOk G none D),
        ⟨n, ρ1, η, S1, Ext.refl.ek, RA1, h1⟩, ?_⟩
      rintro i m σ H ⟨ρ, η, S, ek, R, h⟩
      cases m with
      | zero =>
        left
        unfold forLoc at h
        split at h
        · next ys hc =>
          split at h
          · next hle => exact ⟨hJ.stop i ys ρ S H ek R.st hc hle, h.now R.st σ R⟩
          · exact h.elim
        · exact h.elim
      | succ m =>
        right
        unfold forLoc at h
        split at h
        · next ys hc =>
          split at h
          · next x hx =>
            refine ⟨hJ.go i ys x ρ S H ek R.st hc hx, fun σ H => ∃ ρ η S, EK ρ1 S1 H1 ρ S H ∧ RelAll G none ρ η S σ H ∧ Sat G E ρ S H (forLoc (setT C t) (execSs C jb) l m (i + 1) η S) (FlowOk G none D),
              fun σ' H' q => ⟨m, Nat.lt_succ_self _, q⟩, fun v H2 y => ?_⟩
            obtain ⟨e2, rx⟩ := hJ.yld i ys x v ρ S H H2 ek R.st hc hx y
            subst e2
            refine ⟨ρ, η, S, .d x, R, .d rx, (h.bindN (W2 := noX)).mono fun η3 ρ3 S3 H3 _ _ ⟨e3, R3, h3⟩ σ3 RA3 sb => ?_⟩
            have ek3 : EK ρ1 S1 H1 ρ3 S3 H3 := ek.ext e3
            refine ⟨ρ3, η3, S3, RA3, h3.bind.mono fun f ρ4 S4 H4 _ _ ⟨e4, R4, h4⟩ => ?_⟩
            have ek4 := ek3.ext e4
            cases f with
            | nx η4 => exact fun σ4 RA4 => ⟨ρ4, η4, S4, ek4, RA4, h4⟩
            | cont η4 => exact fun σ4 RA4 => ⟨ρ4, η4, S4, ek4, RA4, h4⟩
            | brk η4 => exact fun σ4 RA4 => h4.now R4 σ4 RA4
            | ret w => exact fun v r => h4.now R4 v r
          · exact h.elim
        · exact h.elim
end
end RI
/-! RI16: defs, by depth; what the head tells. -/
namespace RI
open PySem PySem.Spec PyProof.Rows L2

/-! ### a def's end -/
section
variable {G : Wd} {ρ ρ1 : Rho} {S S1 : Store} {H H1 : Hp} {E : XK} {keep : Bool} {Q : VK}
theorem RelX.mono {L L' : Addr → Prop} {fs : List (Nat × D)} {dx : Option Addr} (k : Kp L H L' H1) (h : RelX G L H fs dx) : RelX G L' H1 fs dx := by
  rcases h with h | ⟨d, vs, e, h, n, r⟩
  · exact .inl h
  · exact .inr ⟨d, vs, e, k.keep _ _ h fun z => absurd z n, k.out h n, r.mono k⟩
theorem freeze_ok {t : List Addr} {w w' : W} {v : V} (R : RelS G (ρ.app t) S1 H) (l : ρ.l.length = S.length) (hn : S.length ≤ S1.length) (r : RelW G none (Live (ρ.app t) S1) (ρ.app t) H w v) (e : freeze S.length w S1 = some w') :
    RelW G none (Live ρ (S1.take S.length)) ρ H w' v := by
  have k : Kp (Live (ρ.app t) S1) H (Live ρ (S1.take S.length)) H := kp_take hn l
  unfold freeze at e
  cases r with
  | d r => cases e; exact .d (r.mono k)
  | loc h =>
    dsimp only at e
    split at e
    · next hl =>
      cases e
      refine .loc ?_
      replace h : (ρ.l ++ t)[_]? = some _ := h
      rwa [List.getElem?_append_left (by rw [l]; exact hl)] at h
    · next hl =>
      rw [Option.map_eq_some_iff] at e
      obtain ⟨x, e, rfl⟩ := e
      rw [Option.bind_eq_some_iff] at e
      obtain ⟨c, hc, e⟩ := e
      refine .d ((R.cell _ _ _ hc h).data k e ?_)
      rintro (f | ⟨m, c', h1, h2, h3⟩)
      · exact (R.res _ f).2 (List.mem_of_getElem? h)
      · have hm := get_lt h3
        have := nd_inj R.nd (pre_get h3) h
        omega
  | scr h => cases e
  | exn h => cases h
theorem finish_ok (R : RelS G ρ S H) {r : Res Flow} (h : Sat G E ρ S H (finish keep S.length r) fun w ρ' S' H' => ∀ v, RelW G none (Live ρ' S') ρ' H' w v → Q v H') :
    Sat G E ρ S H r (FlowOk G none { nx := fun _ H' => Q .non H', rt := Q }) := by
  have cl : ∀ (w : W) (S' : Store), Sat G E ρ S H (close keep S.length w S') (fun w ρ' S' H' => ∀ v, RelW G none (Live ρ' S') ρ' H' w v → Q v H') → ∀ ρ' H', Ext ρ S H ρ' S' H' → RelS G ρ' S' H' → ∀ v, RelW G none (Live ρ' S') ρ' H' w v → Q v H' := by
    intro w S' h ρ' H' e R' v rv
    unfold close at h
    split at h
    · exact h ρ' H' e R' v rv
    · split at h
      · next hb =>
        split at h
        · next w' hw =>
          obtain ⟨t, et⟩ := e.pre
          subst et
          exact h ρ H' (e.trunc R.len hb.2) (R'.trunc R.len hb.2 hb.1) v (freeze_ok R' R.len hb.2 rv hw)
        · exact h.elim
      · exact h.elim
  cases r with
  | ok f S' =>
    cases f with
    | nx η => exact fun ρ' H' e R' σ _ => cl (.d .non) S' h ρ' H' e R' .non (.d .non)
    | ret w => exact fun ρ' H' e R' v rv => cl w S' h ρ' H' e R' v rv
    | brk η => exact h.elim
    | cont η => exact h.elim
  | exc c fs S' =>
    intro dx ρ' H' e R' x
    unfold finish at h
    dsimp only at h
    split at h
    · exact h dx ρ' H' e R' x
    · split at h
      · next hb =>
        obtain ⟨t, et⟩ := e.pre
        subst et
        exact h dx ρ H' (e.trunc R.len hb.2) (R'.trunc R.len hb.2 hb.1) (x.mono (kp_take hb.2 R.len))
      · exact h.elim
  | stk => exact h.elim
theorem start_rel {N : List Str} (R : RelS G ρ S H) {ws : List W} {vs : List V} (r : RelWs G none (Live ρ S) ρ H ws vs) : RelAll G none ρ (startE N.length ws) S (L2.start N vs) H := by
  have l := r.length
  refine ⟨R, by simp [startE, L2.start, l], fun i w h => ?_⟩
  unfold startE at h
  by_cases hi : i < ws.length
  · rw [List.getElem?_append_left (by simpa using hi), List.getElem?_map] at h
    cases hq : ws[i]? with
    | none => rw [hq] at h; cases h
    | some q =>
      rw [hq] at h
      cases h
      obtain ⟨v, hv, rv⟩ := r.get hq
      refine ⟨v, ?_, rv⟩
      unfold L2.start
      rw [List.getElem?_append_left (by simp; omega), List.getElem?_map, hv]
      rfl
  · rw [List.getElem?_append_right (by simpa using hi)] at h
    rw [List.getElem?_replicate] at h
    split at h <;> cases h
end
/-! ### what is known of the text, at any depth -/
structure Gf (G : Wd) (P : Prog) (K : PySem.W.Frag) (w : World) (mg : Str → Option Value) : Prop where
  hK : K = G.K
  fmg : ∀ f fd, P.fns[f]? = some fd → fd.top = true → mg fd.name = some (.ref (G.fa f))
  cmg : ∀ c d, P.cls[c]? = some d → mg d.name = some (.ref (G.ca c))
  bmg : ∀ x ∈ bltNames, mg x = none
  cst : ∀ (k : Nat) d x, P.consts[k]? = some d → P.cnm[k]? = some x → ∃ v u, mg x = some u ∧ RelV v u ∧ ∀ L H, RelD G L H d v
  tab : ∀ (i : Nat) T x, P.tabs[i]? = some T → P.tnm[i]? = some x → TabF G K w mg T x
  clf : ∀ c, ordC P c = true → ClsF G K P c
  mkf : ∀ c d f, P.cls[c]? = some d → d.init = some f → Mk K (G.ca c) (G.fa f)
  eqm : ∀ c d f, P.cls[c]? = some d → lookN 0 d.meths = some f → EqF G K c f ∧ ∃ fd, P.fns[f]? = some fd ∧ fd.np = 2
  mth : ∀ c d m f, P.cls[c]? = some d → ordC P c = true → (m, f) ∈ d.meths → Meth K (G.ca c) (G.nm m) (G.fa f)
  nmI : ∀ f g, G.nm f = G.nm g → f = g
  kit : ∀ t u, tyOk0 P t = true → tyOk P u = true → PySem.W.kitOne K (tyVal G t) (tyVal G u) = some (tyIs P t u)
/-- every name's id has a name of its own -/
def nmOf (ns : List Str) (k : Nat) : Str := ns.getD k (Str' (35 :: List.replicate k 35))
/-- one def's text and its program in the small language -/
structure FnAll (P : Prog) (ns : List Str) (fd : FnD) (d : He.DefD) : Prop where
  body : ∀ (G : Wd), G.nm = nmOf ns → ∀ (Pm : Program) (w : World) (K : PySem.W.Frag) (mg : Str → Option Value) (base : Heap) (fa : Addr) (cdv : Value) (A : Around) (outer : List PySem.Env) (s : Shared) (H : Hp) (E : XK) (call : Nat → List W → Store → Res W) (fu k : Nat),
    Sd G (wE E) ⟨call, P, fu⟩ k (cxOf (L2.CX Pm w) Pm w K mg base fd.N d.qual d.scope fa cdv A outer s H E) → 1 ≤ k →
    PassesOwn (model Pm w) (cxOf (L2.CX Pm w) Pm w K mg base fd.N d.qual d.scope fa cdv A outer s H E).A (cxOf (L2.CX Pm w) Pm w K mg base fd.N d.qual d.scope fa cdv A outer s H E).env (cxOf (L2.CX Pm w) Pm w K mg base fd.N d.qual d.scope fa cdv A outer s H E).xe →
    PSs (cxOf (L2.CX Pm w) Pm w K mg base fd.N d.qual d.scope fa cdv A outer s H E) d.body (RSs G E ⟨call, P, fu⟩ fd.body)
  sc : FnScope fd.N (fd.N.take fd.np) d.scope
  bd : ∀ (kV doc pm : Value) (an : Option Addr) (cdv ct : Value) (us : List Value), us.length = (fd.N.take fd.np).length → bindArgs (PySem.W.fnOf d.name d.qual d.params d.body d.scope .none kV doc pm an cdv ct) ⟨us, []⟩ = pure ((fd.N.take fd.np).zip us)
  dfl : d.dfl = [] ∧ d.kwd = []
  le : fd.np ≤ fd.N.length
inductive AllF (P : Prog) (ns : List Str) : List FnD → List He.DefD → Prop where
  | nil : AllF P ns [] []
  | cons {fd : FnD} {d : He.DefD} {fds : List FnD} {ds : List He.DefD} : FnAll P ns fd d → AllF P ns fds ds → AllF P ns (fd :: fds) (d :: ds)
theorem AllF.get {P : Prog} {ns : List Str} {fds : List FnD} {ds : List He.DefD} (h : AllF P ns fds ds) : ∀ {f : Nat} {fd : FnD}, fds[f]? = some fd → ∃ d, ds[f]? = some d ∧ FnAll P ns fd d := by
  induction h with
  | nil => intro f fd e; simp at e
  | cons h hs ih =>
    intro f fd e
    cases f with
    | zero => simp at e; subst e; exact ⟨_, rfl, h⟩
    | succ f =>
      obtain ⟨d, e1, e2⟩ := ih (f := f) (fd := fd) (by simpa using e)
      exact ⟨d, by simpa using e1, e2⟩
theorem spF_len {G : Wd} {call : List W → Store → Res W} {np : Nat} {vs : List V} {H : Hp} {Q : VK} {E : XK} (h : spF G call np vs H Q E) : vs.length = np := by
  obtain ⟨ρ, S, ws, R, r, l, _⟩ := h
  rw [← r.length, l]
/-- the addresses of the text's defs are those that the head tells of -/
def FaOk (G : Wd) (K : PySem.W.Frag) (ds : List He.DefD) : Prop := ∀ f d, ds[f]? = some d → G.fa f = He.fAd K d.at_
theorem fn_all {G : Wd} {P : Prog} {Pm : Program} {w : World} {K : PySem.W.Frag} {mg : Str → Option Value} {base : Heap} {ds : List He.DefD} {fu : Nat} {ns : List Str} (g : Gf G P K w mg) (hnm : G.nm = nmOf ns) (A : AllF P ns P.fns ds) (fa : FaOk G K ds)
    (dd : ∀ d ∈ ds, ∃ fd, FunD K d.name d.qual d.params d.body d.scope (d.dvs K) (d.kws K) (He.fAd K d.at_) fd)
    (xf : ∀ c d fs, P.cls[c]? = some d → d.exc = some fs → ExF G Pm w K mg base P c fs) :
    ∀ (n f : Nat) (fd : FnD) (d : He.DefD) (fdat : FuncData), P.fns[f]? = some fd → ds[f]? = some d → FnAll P ns fd d → FunD K d.name d.qual d.params d.body d.scope [] [] (He.fAd K d.at_) fdat →
      FnG Pm w K mg base (L2.CX Pm w) (2 * n + 2) (G.fa f) fdat (fd.N.take fd.np) (spF G (callF P fu n f) fd.np) := by
  intro n
  induction n with
  | zero =>
    intro f fd d fdat hf hd F FD
    have lp : (fd.N.take fd.np).length = fd.np := by
      rw [List.length_take]
      exact Nat.min_eq_left F.le
    refine ⟨fun vs H Q E h => by rw [lp]; exact spF_len h, fun A outer s H args us vs Q E gd hr e0 hb rv h => ?_⟩
    obtain ⟨ρ, S, ws, R, r, l, hs⟩ := h
    exact hs.elim
  | succ n ih =>
    intro f fd d fdat hf hd F FD
    have lp : (fd.N.take fd.np).length = fd.np := by
      rw [List.length_take]
      exact Nat.min_eq_left F.le
    rw [fa f d hd]
    show FnG Pm w K mg base (L2.CX Pm w) (2 * n + 2 + 1 + 1) _ _ _ _
    refine okG FD F.sc (fun vs H Q E h => by rw [lp]; exact spF_len h) fun cdv A0 outer s H vs Q E gd hr h => ?_
    have S : Sd G (wE E) ⟨callF P fu n, P, fu⟩ (2 * n + 2) (cxOf (L2.CX Pm w) Pm w K mg base fd.N d.qual d.scope (He.fAd K d.at_) cdv A0 outer s H E) :=
      { hK := g.hK, nd := F.sc.nd, tk := takes_of rfl rfl rfl rfl, un := Nat.lt_of_le_of_lt (Nat.le_trans (Nat.add_le_add_left (by decide : 66 ≤ 200) _) (Nat.add_le_add_right (Nat.le_add_right _ _) _)) hr.un, room := fun _ => hr, gd := gd_deeper gd, fok := fun f' fd' h' => ?_, fmg := g.fmg, cmg := g.cmg, bmg := g.bmg, cst := g.cst, tab := g.tab, mth := g.mth, clf := g.clf, exf := xf, mkf := g.mkf, eqm := g.eqm, nmI := g.nmI, kit := g.kit }
    · refine ⟨_, F.body G hnm Pm w K mg base _ cdv A0 outer s H E (callF P fu n) fu (2 * n + 2) S (Nat.le_add_left 1 (2 * n + 1)) (passes_of rfl), ?_⟩
      obtain ⟨ρ, St, ws, R, r, l, hs⟩ := h
      refine ⟨ρ, startE fd.N.length ws, St, start_rel R r, ?_⟩
      replace hs : Sat G E ρ St H (match P.fns[f]? with
        | some fd => if ws.length = fd.np then finish fd.keep St.length (execSs ⟨callF P fu n, P, fu⟩ fd.body (startE fd.N.length ws) St) else .stk
        | none => .stk) _ := hs
      rw [hf] at hs
      dsimp only at hs
      rw [if_pos l] at hs
      exact finish_ok R hs
    · obtain ⟨d', hd', F'⟩ := A.get h'
      obtain ⟨fdat', FD'⟩ := dd d' (List.mem_of_getElem? hd')
      have e1 : d'.dvs K = [] := by unfold He.DefD.dvs; rw [F'.dfl.1]; rfl
      have e2 : d'.kws K = [] := by unfold He.DefD.kws; rw [F'.dfl.2]; rfl
      rw [e1, e2] at FD'
      refine ⟨⟨fdat', _, ?_, ih f' fd' d' fdat' h' hd' F' FD', FD'.bindsN F'.bd⟩, ?_⟩
      · rw [List.length_take]
        exact Nat.min_eq_left F'.le
      · rw [fa f' d' hd']
        exact FD'.kp
/-! ### the facts, by one Bool over what the head leaves -/
section
variable (K : PySem.W.Frag)
def atN (x : Str) (u : Option Value) : Bool := He.eqO (PySem.W.nsIn K mainGlobals x) (some u)
mutual
def cB : D → Value → Bool
  | .non, .none => true
  | .bl b, .bool c => b == c
  | .int i, .int j _ => decide (i = j)
  | .str x, .str y _ => decide (Str' x = y)
  | .tup xs, .ref a => match K.lookup a with
    | some ⟨.type c, _, .seq its _, _⟩ => decide (c = "tuple") && (decide (its.size ≤ sizeLine) && cBs xs its.toList)
    | _ => false
  | _, _ => false
termination_by structural x => x
def cBs : List D → List Value → Bool
  | [], [] => true
  | x :: xs, u :: us => cB x u && cBs xs us
  | _, _ => false
termination_by structural x => x
end
end
mutual
theorem cB_ok {G : Wd} : ∀ {d : D} {u : Value}, cB G.K d u = true → ∃ v, RelV v u ∧ ∀ L H, RelD G L H d v
  | .non, u, h => by
    cases u <;> first | exact ⟨.non, rfl, fun _ _ => .non⟩ | cases h
  | .bl b, u, h => by
    cases u <;> first | cases h | skip
    rename_i c
    have h : (b == c) = true := h
    rw [beq_iff_eq] at h; subst h; exact ⟨.bl b, rfl, fun _ _ => .bl b⟩
  | .int i, u, h => by
    cases u <;> first | cases h | skip
    have h := of_decide_eq_true h; subst h; exact ⟨.int i, ⟨_, rfl⟩, fun _ _ => .int i⟩
  | .str x, u, h => by
    cases u <;> first | cases h | skip
    have h := of_decide_eq_true h; subst h; exact ⟨.str (Str' x), ⟨_, rfl⟩, fun _ _ => .str x⟩
  | .tup xs, u, h => by
    cases u <;> first | cases h | skip
    rename_i a
    unfold cB at h
    split at h
    · next c dd its sl n' hl =>
      rw [Bool.and_eq_true, Bool.and_eq_true] at h
      obtain ⟨h1, h2, h3⟩ := h
      obtain ⟨vs, hv, hr⟩ := cBs_ok (G := G) (ds := xs) h3
      have h1 := of_decide_eq_true h1
      have h2 := of_decide_eq_true h2
      subst h1
      exact ⟨.ref a, rfl, fun L H => .tup (.inr ⟨_, _, _, hl, rfl, rfl, h2, hv⟩) (hr L H)⟩
    · cases h
  | .lst xs, u, h => by cases u <;> cases h
  | .dic xs, u, h => by cases u <;> cases h
  | .obj c fs, u, h => by cases u <;> cases h
  | .fn f, u, h => by cases u <;> cases h
theorem cBs_ok {G : Wd} : ∀ {ds : List D} {us : List Value}, cBs G.K ds us = true → ∃ vs, Vals vs us ∧ ∀ L H, RelDs G L H ds vs
  | [], [], _ => ⟨[], .nil, fun _ _ => .nil⟩
  | d :: ds, u :: us, h => by
    have h : (cB G.K d u && cBs G.K ds us) = true := h
    rw [Bool.and_eq_true] at h
    obtain ⟨v, r, hd⟩ := cB_ok (G := G) (d := d) h.1
    obtain ⟨vs, rs, hds⟩ := cBs_ok (G := G) (ds := ds) h.2
    exact ⟨v :: vs, .cons r rs, fun L H => .cons (hd L H) (hds L H)⟩
  | [], u :: us, h => by cases h
  | d :: ds, [], h => by cases h
end
def nmOk (ns : List Str) : Bool := decide ns.Nodup && ns.all fun x => x.cps.toList.head? != some 35
theorem nmOf_inj {ns : List Str} (h : nmOk ns = true) (f g : Nat) (e : nmOf ns f = nmOf ns g) : f = g := by
  unfold nmOk at h
  rw [Bool.and_eq_true] at h
  obtain ⟨h1, h2⟩ := h
  have h1 := of_decide_eq_true h1
  have out : ∀ k, ns.length ≤ k → nmOf ns k = Str' (35 :: List.replicate k 35) := fun k hk => by
    unfold nmOf
    rw [List.getD_eq_getElem?_getD, List.getElem?_eq_none hk]; rfl
  have inn : ∀ k (hk : k < ns.length), nmOf ns k = ns[k] := fun k hk => by
    unfold nmOf
    rw [List.getD_eq_getElem?_getD, List.getElem?_eq_getElem hk]; rfl
  have no : ∀ k (hk : k < ns.length) m, ns[k] ≠ Str' (35 :: List.replicate m 35) := fun k hk m z => by
    have := List.all_eq_true.mp h2 _ (List.getElem_mem hk)
    rw [z] at this
    simp at this
  by_cases hf : f < ns.length
  · by_cases hg : g < ns.length
    · rw [inn f hf, inn g hg] at e
      exact (List.getElem_inj h1).mp e
    · rw [inn f hf, out g (by omega)] at e
      exact (no f hf g e).elim
  · by_cases hg : g < ns.length
    · rw [out f (by omega), inn g hg] at e
      exact (no g hg f e.symm).elim
    · rw [out f (by omega), out g (by omega)] at e
      have e := str_inj e
      simpa using congrArg List.length e
/-- the world of a law -/
def wdOf (P : Prog) (ds : List He.DefD) (ns : List Str) (K : PySem.W.Frag) : Wd where
  K := K
  ca c := He.ga K ((P.cls[c]?.map (·.name)).getD Str.empty)
  fa f := He.fAd K ((ds[f]?.map (·.at_)).getD (Str.empty, none))
  nm := nmOf ns
section
variable (P : Prog) (ds : List He.DefD) (ns : List Str) (K : PySem.W.Frag)
def clsB (c : Nat) : Bool :=
  let C := (wdOf P ds ns K).ca c
  (PySem.W.plainGet K C Str.empty && (PySem.W.hasDictIn K C && (PySem.W.plainOver K C && He.eqO (PySem.W.findIn K (.ref C) "__setattr__") (some (some (.builtin "object.__setattr__")))))) &&
  (PySem.W.keepIn K (.ref C) && (He.eqO (PySem.W.findIn K (.ref C) "__class__") (some (some (.builtin "object.__class__"))) && (He.eqO (PySem.W.specialIn K (.builtin "object.__class__") "__get__") (some (some (.builtin "getset_descriptor.__get__"))) &&
    (decide (PySem.W.takesIn K (.builtin "object.__class__") = some true) && (decide (PySem.W.mroIn K C (.type "object") = some true) && P.flds.all fun f => He.eqO (PySem.W.findIn K (.ref C) (nmOf ns f)) (some none))))))
def mkB (c f : Nat) : Bool :=
  let C := (wdOf P ds ns K).ca c
  let F := (wdOf P ds ns K).fa f
  PySem.W.makesIn K C && (He.eqO (PySem.W.findIn K (.ref C) "__init__") (some (some (.ref F))) && (PySem.W.isFn K (.ref F) && PySem.W.keepIn K (.ref C)))
def eqB (c f : Nat) : Bool :=
  let C := (wdOf P ds ns K).ca c
  let F := (wdOf P ds ns K).fa f
  He.eqO (PySem.W.findIn K (.ref C) "__eq__") (some (some (.ref F))) && (He.eqO (PySem.W.findIn K (.ref C) "__ne__") (some (some (.builtin "object.__ne__"))) && (PySem.W.isFn K (.ref F) && ((decide (PySem.W.subIn K (.type "tuple") (.ref C) = some false) && decide (PySem.W.subIn K (.type "NoneType") (.ref C) = some false)) && (decide (PySem.W.mroIn K C (.type "object") = some true) &&
    (match P.fns[f]? with
    | some fd => decide (fd.np = 2)
    | none => false)))))
def mthB (c : Nat) (ms : List (Nat × Nat)) : Bool := ms.all fun q =>
  let C := (wdOf P ds ns K).ca c
  let F := (wdOf P ds ns K).fa q.2
  He.eqO (PySem.W.findIn K (.ref C) (nmOf ns q.1)) (some (some (.ref F))) && (PySem.W.isFn K (.ref F) && PySem.W.keepIn K (.ref F))
def ordCs : List Nat := (List.range P.cls.length).filter (ordC P)
def tys0 : List Ty := [.none, .bool, .int, .str, .tuple, .list, .dict] ++ (ordCs P).map .cls
def tys1 : List Ty := [.bool, .int, .str, .tuple, .list] ++ (ordCs P).map .cls
def ex : Bool :=
  ((P.fns.zipIdx.all fun q => !q.1.top || atN K q.1.name (some (.ref ((wdOf P ds ns K).fa q.2)))) && (P.cls.zipIdx.all fun q => atN K q.1.name (some (.ref ((wdOf P ds ns K).ca q.2))))) &&
  ((bltNames.all fun x => atN K x none) && ((P.consts.zip P.cnm).all fun q => match PySem.W.nsIn K mainGlobals q.2 with
    | some (some u) => cB K q.1 u
    | _ => false)) &&
  (((ordCs P).all (clsB P ds ns K)) && (P.cls.zipIdx.all fun q => (match q.1.init with
    | some f => mkB P ds ns K q.2 f
    | none => true) && (match lookN 0 q.1.meths with
    | some f => eqB P ds ns K q.2 f
    | none => true))) &&
  (P.cls.zipIdx.all fun q => !ordC P q.2 || mthB P ds ns K q.2 q.1.meths) &&
  ((tys0 P).all fun t => (tys1 P).all fun u => decide (PySem.W.kitOne K (tyVal (wdOf P ds ns K) t) (tyVal (wdOf P ds ns K) u) = some (tyIs P t u)))
end
theorem ns_at {K : PySem.W.Frag} {h : Heap} {mg : Str → Option Value} (X : K.In h) (G : h.Ns mainGlobals mg) {x : Str} {u : Option Value} (c : PySem.W.nsIn K mainGlobals x = some u) : mg x = u := by
  cases u with
  | none => exact PySem.W.mg_none_of X G c
  | some u => exact PySem.W.mg_of X G c
theorem gf_of {P : Prog} {ds : List He.DefD} {ns : List Str} {K : PySem.W.Frag} {w : World} {h : Heap} {mg : Str → Option Value} (hts : ∀ (i : Nat) T x, P.tabs[i]? = some T → P.tnm[i]? = some x → TabF (wdOf P ds ns K) K w mg T x) (X : K.In h) (G : h.Ns mainGlobals mg) (hn : nmOk ns = true) (hl : P.cnm.length = P.consts.length) (c : ex P ds ns K = true) : Gf (wdOf P ds ns K) P K w mg := by
  unfold ex at c
  simp only [Bool.and_eq_true] at c
  obtain ⟨⟨⟨⟨⟨c1, c2⟩, c3, c4⟩, c5, c6⟩, c8⟩, c7⟩ := c
  have at_ : ∀ {x : Str} {u : Option Value}, atN K x u = true → mg x = u := fun h => ns_at X G (He.eqO_ok h)
  have cls : ∀ c, ordC P c = true → c ∈ ordCs P := fun c hc => by
    unfold ordCs
    rw [List.mem_filter, List.mem_range]
    refine ⟨?_, hc⟩
    unfold ordC at hc
    split at hc
    · next e => exact (List.getElem?_eq_some_iff.mp e).1
    · cases hc
  have zi : ∀ {α : Type} {xs : List α} {i : Nat} {x : α}, xs[i]? = some x → (x, i) ∈ xs.zipIdx := fun e => by
    rw [List.mem_zipIdx_iff_getElem?]
    exact e
  have tys : ∀ t, tyOk0 P t = true → t ∈ tys0 P := fun t h => by
    unfold tys0
    cases t with
    | cls c => exact List.mem_append_right _ (List.mem_map.mpr ⟨c, cls c h, rfl⟩)
    | valueError => cases h
    | _ => exact List.mem_append_left _ (by simp)
  have tys' : ∀ t, tyOk P t = true → t ∈ tys1 P := fun t h => by
    unfold tys1
    cases t with
    | cls c => exact List.mem_append_right _ (List.mem_map.mpr ⟨c, cls c h, rfl⟩)
    | valueError => cases h
    | none => cases h
    | dict => cases h
    | _ => exact List.mem_append_left _ (by simp)
  refine { hK := rfl, fmg := fun f fd h1 h2 => ?_, cmg := fun c d h1 => at_ (List.all_eq_true.mp c2 _ (zi h1)), bmg := fun x h => at_ (List.all_eq_true.mp c3 x h), cst := fun k d x h1 h2 => ?_, tab := hts, mth := fun c d m f h1 ho hm => (by
    have := List.all_eq_true.mp c8 _ (zi h1)
    rw [ho] at this
    have := List.all_eq_true.mp (show mthB P ds ns K c d.meths = true from this) _ hm
    simp only [Bool.and_eq_true] at this
    exact ⟨He.eqO_ok this.1, this.2.1, this.2.2⟩), clf := fun c hc => ?_, mkf := fun c d f h1 h2 => ?_, eqm := fun c d f h1 h2 => ?_, nmI := nmOf_inj hn, kit := fun t u ht hu => of_decide_eq_true (List.all_eq_true.mp (List.all_eq_true.mp c7 t (tys t ht)) u (tys' u hu)) }
  · have := List.all_eq_true.mp c1 _ (zi h1)
    rw [h2] at this
    exact at_ (by simpa using this)
  · have hm : (d, x) ∈ P.consts.zip P.cnm := List.mem_of_getElem? (i := k) (List.getElem?_zip_eq_some.mpr ⟨h1, h2⟩)
    have := List.all_eq_true.mp c4 _ hm
    dsimp only at this
    split at this
    · next u e =>
      obtain ⟨v, r, hr⟩ := cB_ok (G := wdOf P ds ns K) this
      exact ⟨v, u, ns_at X G e, r, hr⟩
    · cases this
  · have := List.all_eq_true.mp c5 c (cls c hc)
    unfold clsB at this
    simp only [Bool.and_eq_true] at this
    obtain ⟨⟨a1, a2, a3, a4⟩, a5, a6, a7, a8, a9, a10⟩ := this
    exact { cls := ⟨a1, a2, a3, He.eqO_ok a4⟩, kp := a5, ha := He.eqO_ok a6, hn := He.eqO_ok a7, htk := of_decide_eq_true a8, hm := of_decide_eq_true a9, na := fun f hf => He.eqO_ok (List.all_eq_true.mp a10 f hf) }
  · have := List.all_eq_true.mp c6 _ (zi h1)
    rw [Bool.and_eq_true] at this
    have := this.1
    dsimp only at this
    rw [h2] at this
    dsimp only at this
    unfold mkB at this
    simp only [Bool.and_eq_true] at this
    exact ⟨this.1, He.eqO_ok this.2.1, this.2.2.1, this.2.2.2⟩
  · have := List.all_eq_true.mp c6 _ (zi h1)
    rw [Bool.and_eq_true] at this
    have := this.2
    dsimp only at this
    rw [h2] at this
    dsimp only at this
    unfold eqB at this
    simp only [Bool.and_eq_true] at this
    obtain ⟨a1, a2, a3, ⟨a6, a7⟩, a4, a5⟩ := this
    refine ⟨⟨He.eqO_ok a1, He.eqO_ok a2, a3, of_decide_eq_true a6, of_decide_eq_true a7, of_decide_eq_true a4⟩, ?_⟩
    split at a5
    · next fd e => exact ⟨fd, e, of_decide_eq_true a5⟩
    · cases a5
end RI
/-! RI18: the rules as a printed proof takes them: all side conditions by rfl. -/
namespace RI
open PySem PySem.Spec PyProof.Rows L2
def visB (sc : Scope) (x : Str) : Bool := match sc.names.lookup x with
  | some .local => true
  | some .cell => true
  | some .free => true
  | _ => false
theorem vis_of {sc : Scope} {x : Str} (h : visB sc x = true) : Vis sc x := by
  unfold visB at h
  split at h
  · next e => exact .inl e
  · next e => exact .inr (.inl e)
  · next e => exact .inr (.inr e)
  · cases h
def locB (sc : Scope) (x : Str) : Bool := match sc.names.lookup x with
  | some .local => true
  | some .cell => true
  | _ => false
theorem loc_of {sc : Scope} {x : Str} (h : locB sc x = true) : Loc sc x := by
  unfold locB at h
  split at h
  · next e => exact .inl e
  · next e => exact .inr e
  · cases h
def isLocB (sc : Scope) (x : Str) : Bool := match sc.names.lookup x with
  | some .local => true
  | _ => false
theorem isLoc_of {sc : Scope} {x : Str} (h : isLocB sc x = true) : sc.names.lookup x = some .local := by
  unfold isLocB at h
  split at h
  · next e => exact e
  · cases h
def noDunder (x : Str) : Bool := !(x == ("__debug__" : Str)) && !(x == ("__classdict__" : Str))
theorem nd1 {x : Str} (h : noDunder x = true) : (x == ("__debug__" : Str)) = false := by
  unfold noDunder at h
  rw [Bool.and_eq_true] at h
  simpa using h.1
theorem nd2 {x : Str} (h : noDunder x = true) : (x == ("__classdict__" : Str)) = false := by
  unfold noDunder at h
  rw [Bool.and_eq_true] at h
  simpa using h.2
section
variable {G : Wd} {ex : Ex} {Wx : L2.WX} {C : Ctx} {k : Nat} {X : Cx} {pos p p2 apos : Pos} {x : Str} {i : Nat} {a b c e o : Expr} {ia ib ic io ie : IE} {es : List Expr} {ies : IEs} {fd : FnD}
theorem q_var (hN : X.N[i]? = some x) (hv : visB X.env.scope x = true) (hd : noDunder x = true) : PE X (.Name x pos) (RE G ex Wx C (.var i)) := e_var hN (vis_of hv) (nd1 hd) (nd2 hd)
theorem q_nm (S : Sd G Wx C k X) (hi : X.N[i]? = some x) (hx : locB X.env.scope x = true) (hf : (X.fn x || isLocB X.env.scope x) = true) : PG X (.Name x pos) (RdG G (IT.names (.nm i)) (setT C (.nm i))) :=
  g_nm S hi (loc_of hx) (by
    rcases Bool.or_eq_true_iff.mp hf with h | h
    · exact .inl h
    · exact .inr (isLoc_of h))
theorem q_set {E : XK} {pos' : Pos} (S : Sd G (wE E) C k X) (hi : X.N[i]? = some x) (hx : locB X.env.scope x = true) (hf : (X.fn x || isLocB X.env.scope x) = true) (he : PE X e (RE G ex (wE E) C ie)) (hs : swapsWith e (some (.Name x pos')) pos.line X.env = pure false) :
    PS X (.Assign [.Name x pos'] e pos) (RSx G ex E C (.asg (.nm i) ie)) :=
  s_set S hi (loc_of hx) he hs (by
    rcases Bool.or_eq_true_iff.mp hf with h | h
    · exact .inl h
    · exact .inr (isLoc_of h))
theorem q_callv (S : Sd G Wx C k X) (hcm : X.calm = true) (hN : X.N[i]? = some x) (hv : visB X.env.scope x = true) (hd : noDunder x = true) (ha : PA X (e :: es) (REs G none Wx C ies))
    (he : starEach (e :: es) X.env = (false, eval e X.env) :: starEach es X.env := by rfl) (hpl : (backTo pos (starEach es X.env)).any (·.1) = false := by rfl) : PE X (.Call (.Name x p) (e :: es) [] pos) (RE G none Wx C (.callv i ies)) :=
  e_callv S hcm hN (vis_of hv) ha (nd1 hd) (nd2 hd) he hpl
theorem RelFw.len {L : Addr → Prop} {ρ : Rho} {H : Hp} : ∀ {fs : List (Nat × W)} {vs : List (Str × V)}, RelFw G L ρ H fs vs → fs.length = vs.length
  | _, _, .nil => rfl
  | _, _, .cons _ h => congrArg (· + 1) (RelFw.len h)
theorem RelFw.put {L : Addr → Prop} {ρ : Rho} {H : Hp} {f : Nat} {w : W} {v : V} (hI : ∀ f g, G.nm f = G.nm g → f = g) (r : RelW G none L ρ H w v) : ∀ {fs : List (Nat × W)} {vs : List (Str × V)}, RelFw G L ρ H fs vs → RelFw G L ρ H (putN f w fs) (putF (G.nm f) v vs)
  | _, _, .nil => .cons r .nil
  | _, _, .cons (f := g) h hs => by
    unfold putN putF
    by_cases q : g = f
    · subst q
      rw [if_pos rfl, if_pos rfl]
      exact .cons r hs
    · rw [if_neg q, if_neg fun z => q (hI _ _ z)]
      exact .cons h (RelFw.put hI r hs)
theorem q_fld {f : Nat} {n : Str} {ns : List Str} (S : Sd G Wx C k X) (hf : C.P.flds.contains f = true) (hnm : G.nm = nmOf ns) (hn : nmOf ns f = n) (ho : PE X o (RE G none Wx C io)) (hb : attributeBase o n X.env (eval o X.env) = eval o X.env := by rfl) : PE X (.Attribute o n pos) (RE G none Wx C (.fld io f)) :=
  e_fld S hf (by rw [hnm]; exact hn) ho hb
theorem s_fld {E : XK} {f : Nat} {n : Str} {ns : List Str} {pos' : Pos} (S : Sd G (wE E) C k X) (hf : C.P.flds.contains f = true) (hnm : G.nm = nmOf ns) (hn : nmOf ns f = n) (ho : PE X o (RE G none (wE E) C io)) (he : PE X e (RE G none (wE E) C ie)) (hs : swapsWith e (some (.Attribute o n pos')) pos.line X.env = pure false := by rfl) :
    PS X (.Assign [.Attribute o n pos'] e pos) (RS G E C (.asg (.fld io f) ie)) := by
  have hn : G.nm f = n := by rw [hnm]; exact hn
  subst hn
  exact (ps_fld ho he hs).of fun D σ H ⟨ρ, η, St, R, h⟩ => rdS1 (f := fun w S1 => (noExc (setT C (.fld io f) w η S1)).bind fun η1 S2 => .ok (.nx η1) S2) R h fun w v ρ1 S1 H1 R1 e1 r1 h1 => by
    replace h1 : Sat G E ρ1 S1 H1 ((noExc (((evalP C io).1 η S1).bind fun x S1 => (setFld C.P x f w S1).bind fun _ S2 => .ok η S2)).bind fun η1 S2 => .ok (Flow.nx η1) S2) (FlowOk G none D) := h1
    rw [noExc_bind, Res.bind_assoc] at h1
    refine ⟨ρ1, η, S1, R1, Sat.nx (W1 := noX) (h1.bindN.mono fun wo ρ2 S2 H2 _ _ ⟨e2, R2, h2⟩ vo ro => ?_)⟩
    have RA2 := R1.mono e2 R2
    unfold setFld at h2
    cases ro with
    | loc hl =>
      dsimp only at h2
      split at h2
      · next c fs hc =>
        split at h2
        · next hq =>
          cases R2.cell _ _ _ hc hl with
          | ins hH hfs =>
            rename_i dx vs
            have al : alive (.ins c fs) = true := rfl
            have rw' := r1.mono e2.kp e2.pre
            have e3 := Ext.setCell (c' := .ins c (putN f w fs)) (o := .ins (G.ca c) dx (putF (G.nm f) v vs)) R2 hc al hl
            have R3 := R2.setCell (c' := .ins c (putN f w fs)) (o := .ins (G.ca c) dx (putF (G.nm f) v vs)) hc al hl (.ins (upd_same ..) (RelFw.put S.nmI (rw'.mono e3.kp e3.pre) (hfs.mono e3.kp e3.pre)))
            have hfm : f ∈ C.P.flds := by simpa using hf
            have hlen : vs.length < 1000 := by
              rw [← hfs.len]
              omega
            exact ⟨_, G.ca c, dx, vs, rfl, hH, (S.clf _ hq.2).cls, (S.clf _ hq.2).na f hfm, hlen, (fl (f := .nx η) (E := E) R3 (Sat.from e3 h2)) σ (RA2.mono e3 R3)⟩
        · exact h2.elim
      · exact h2.elim
    | _ => exact h2.elim
end
end RI
/-! RI19: errors raised, caught. -/
namespace RI
open PySem PySem.Spec PyProof.Rows L2
section
variable {G : Wd} {ex : Ex} {Wx : L2.WX} {C : Ctx} {k : Nat} {X : Cx} {pos p p2 apos tpos pos' : Pos} {x : Str} {i : Nat} {a b c e o : Expr} {ia ib ic io ie : IE} {es : List Expr} {ies : IEs} {fd : FnD} {E : XK}
/-! ### the facts in a try's body, in a suite -/
theorem Sd.tr (S : Sd G Wx C k X) {W' : L2.WX} (pn : List (Addr × Obj)) (xe : Value → Shared → Prop) (tk : L2.Takes (X.tr pn xe) W') : Sd G W' C k (X.tr pn xe) :=
  { hK := S.hK, nd := S.nd, tk := tk, un := S.un, room := S.room, gd := S.gd, fok := fun f fd h => ⟨(S.fok f fd h).ex, (S.fok f fd h).kp⟩, fmg := S.fmg, cmg := S.cmg, bmg := S.bmg, cst := S.cst, tab := S.tab, mth := S.mth, clf := S.clf, mkf := S.mkf, eqm := S.eqm, exf := S.exf, nmI := S.nmI, kit := S.kit }
theorem Sd.suite (S : Sd G Wx C k X) (a : Addr) (pn : List (Addr × Obj)) : Sd G noW C k (X.suite a pn) :=
  { hK := S.hK, nd := S.nd, tk := takes0, un := S.un, room := fun h => (by cases h), gd := S.gd, fok := fun f fd h => ⟨(S.fok f fd h).ex, (S.fok f fd h).kp⟩, fmg := S.fmg, cmg := S.cmg, bmg := S.bmg, cst := S.cst, tab := S.tab, mth := S.mth, clf := S.clf, mkf := S.mkf, eqm := S.eqm, exf := S.exf, nmI := S.nmI, kit := S.kit }

/-! ### raise -/
/-- X() -/
theorem pmk_own0 {Ca : Addr} {bmB : List Value} {B newId initId : String} (F : ExcBaseFacts B newId initId bmB) (q : PySem.W.excIn X.K Ca bmB newId = true) (gC : X.mg x = some (.ref Ca)) (kC : PySem.W.keepIn X.K (.ref Ca) = true) (r : Raises X (.ref Ca)) (hg : Gl X x)
    (hdb : (x == ("__debug__" : Str)) = false := by decide) : PMk X (.Call (.Name x p) [] [] pos) (fun _ H Q => Q (.ref Ca) none H) := by
  intro pins s σ H Q I h
  refine wpAny_Call_Name_kw (ld_glob I hg gC ?_ hdb)
  refine PySem.W.callWith_K0 I.kIn kC ?_
  obtain ⟨bm, N, nm, qn, bs, hdct, sn, sub, ab, col, dd, k0, k1, k2, k3, k5, mN, hC, hN, hni, T⟩ := exc_obj I.kIn q
  show wpAny _ _ (call (.ref Ca) []) _ _ _
  refine wpAny_call_exc_subT F T hC hN hni (fun h' e hm => ?_) (Nat.zero_le _)
  exact mk_of I hm r h (I.hok.gone hm.new)
theorem fieldsOf_nil {ws : List W} {ds : List (Nat × D)} (h : fieldsOf [] ws = some ds) : ws = [] ∧ ds = [] := by
  cases ws with
  | nil => unfold fieldsOf at h; cases h; exact ⟨rfl, rfl⟩
  | cons w ws => unfold fieldsOf at h; cases h
theorem fieldsOf_one {f : Nat} {ws : List W} {ds : List (Nat × D)} (h : fieldsOf [f] ws = some ds) : ∃ d, ws = [.d d] ∧ ds = [(f, d)] := by
  cases ws with
  | nil => unfold fieldsOf at h; cases h
  | cons w ws =>
    cases w with
    | d d =>
      unfold fieldsOf at h
      cases h2 : fieldsOf [] ws with
      | none => rw [h2] at h; cases h
      | some e =>
        obtain ⟨rfl, rfl⟩ := fieldsOf_nil h2
        rw [h2] at h
        cases h
        exact ⟨d, rfl, rfl⟩
    | _ => unfold fieldsOf at h; cases h
/-- raise X() -/
theorem s_raise0 {cd : ClD} (S : Sd G (wE E) C k X) (hcm : X.calm = true) (hg : Gl X x) (h1 : C.P.cls[i]? = some cd) (hn : cd.name = x) (hx : cd.exc = some []) (hdb : (x == ("__debug__" : Str)) = false := by decide) :
    PS X (.Raise (some (.Call (.Name x p) [] [] pos)) none tpos) (RS G E C (.raise i .nil)) := by
  subst hn
  have T := S.exf i cd [] h1 hx
  refine (ps_raise hcm S.tk (pmk_own0 PySem.F.excBase_ValueError (T.own rfl) (S.cmg i cd h1) T.kC (raises_own T.cl.hs T.tyC) hg hdb)).of fun D σ H ⟨ρ, η, St, R, h⟩ => ?_
  replace h : Sat G E ρ St H (match C.P.cls[i]? with
    | some k => match k.exc with
      | some fs => match fieldsOf fs [] with
        | some ds => .exc i ds St
        | none => .stk
      | none => .stk
    | none => .stk) (FlowOk G none D) := h
  rw [h1] at h
  dsimp only at h
  rw [hx] at h
  exact h none ρ H .refl R.st (.inl ⟨rfl, rfl⟩)
theorem newXd {ρ : Rho} {S : Store} {H : Hp} {p : Addr} {n : Nat} {x : D} {v : V} (R : RelS G ρ S H) (hp : H p = none) (r : RelD G (Live ρ S) H x v) :
    RelX G (Live ρ S) (upd H p (.xd [(G.nm n, v)])) [(n, x)] (some p) :=
  .inr ⟨p, _, rfl, upd_same .., R.fresh hp, .cons (r.mono (Ext.newObj (ρ := ρ) (S := S) hp).kp) .nil⟩
/-- raise X(e) -/
theorem s_raise1 {cd : ClD} {f : Nat} (S : Sd G (wE E) C k X) (hcm : X.calm = true) (hk : 1 ≤ k) (hg : Gl X x) (h1 : C.P.cls[i]? = some cd) (hn : cd.name = x) (hx : cd.exc = some [f]) (ha : PA X [e] (REs G none (wE E) C ies)) (hl : ies.len = 1 := by rfl) (hdb : (x == ("__debug__" : Str)) = false := by decide)
    (he : starEach [e] X.env = (false, eval e X.env) :: starEach [] X.env := by rfl) (hpl : (backTo pos (starEach [] X.env)).any (·.1) = false := by rfl) :
    PS X (.Raise (some (.Call (.Name x p) [e] [] pos)) none tpos) (RS G E C (.raise i ies)) := by
  subst hn
  have T := S.exf i cd [f] h1 hx
  obtain ⟨O, fI, fdat, ps, iC, tI, F, hb⟩ := T.ini f rfl
  refine (ps_raise hcm S.tk (pmk_oex O iC tI F ((S.room hcm).mono (by omega)) hb .nil (fun _ _ _ _ _ _ _ h => h.elim) hg (S.cmg i cd h1) ha hdb he hpl)).of fun D σ H ⟨ρ, η, St, R, h⟩ => ?_
  refine rd1n (Wx := wE E) (f := fun ws S1 => match C.P.cls[i]? with
    | some k => match k.exc with
      | some fs => match fieldsOf fs ws with
        | some ds => .exc i ds S1
        | none => .stk
      | none => .stk
    | none => .stk) R h fun ws vs ρ1 S1 H1 R1 e1 r1 l1 h2 => ?_
  rw [h1] at h2
  dsimp only at h2
  rw [hx] at h2
  dsimp only at h2
  split at h2
  · next ds hf =>
    obtain ⟨d, rfl, rfl⟩ := fieldsOf_one hf
    obtain ⟨v, rfl, rv⟩ := r1.one
    refine ⟨by simp, fun a hna => ⟨a, v, rfl, upd_same .., fun dx hdx hne => ⟨rfl, dx, [(G.nm f, v)], upd_same .., ?_, ?_, ?_⟩⟩⟩
    · rw [upd_ne hne]; exact upd_same ..
    · rw [← hdx, upd_ne hne]
    · have hnx : H1 dx = none := by rw [← hdx, upd_ne hne]
      have eq : upd (del (upd (upd (upd H1 a (exo a (G.ca i) none)) dx (exd dx [(G.nm f, v)])) a (exo a (G.ca i) (some dx))) a) dx (.xd [(G.nm f, v)]) = upd H1 dx (.xd [(G.nm f, v)]) := by
        funext b
        by_cases hb : b = dx
        · subst hb; rw [upd_same, upd_same]
        · rw [upd_ne hb, upd_ne hb]
          by_cases ha : b = a
          · subst ha; rw [del_same, hna]
          · rw [del_ne ha, upd_ne ha, upd_ne hb, upd_ne ha]
      rw [eq]
      exact h2 (some dx) ρ1 _ (Ext.newObj hnx) (R1.st.newObj hnx) (newXd R1.st hnx rv.d_inv)
  · exact h2.elim

/-! ### a try's body -/
def RB (G : Wd) (W' : L2.WX) (m : Env → Store → Res Flow) : TS := fun D σ H => ∃ ρ η S, RelAll G none ρ η S σ H ∧ Sat G (fun c d H => W' c d σ H) ρ S H (m η S) (FlowOk G none D)
theorem b_expr {W' : L2.WX} (he : PE X e (RE G none W' C ie)) (hs : swapsWith e none pos.line X.env = pure false := by rfl) : PS X (.Expr e pos) (RB G W' (execS C (.expr ie))) :=
  (ps_expr he hs).of fun D σ H ⟨ρ, η, St, R, h⟩ => rd1 (f := fun _ S1 => .ok (Flow.nx η) S1) R h fun w v ρ1 S1 H1 R1 e1 r1 h1 => h1.now R1.st σ R1
theorem b_set {W' : L2.WX} (S : Sd G W' C k X) (hi : X.N[i]? = some x) (hx : locB X.env.scope x = true) (hf : (X.fn x || isLocB X.env.scope x) = true) (he : PE X e (RE G none W' C ie)) (hs : swapsWith e (some (.Name x pos')) pos.line X.env = pure false) :
    PS X (.Assign [.Name x pos'] e pos) (RB G W' (execS C (.asg (.nm i) ie))) :=
  (ps_set S.nd hi (loc_of hx) he hs (by
    rcases Bool.or_eq_true_iff.mp hf with h | h
    · exact .inl h
    · exact .inr (isLoc_of h))).of fun D σ H ⟨ρ, η, St, R, h⟩ => rd1 (f := fun w S1 => (noExc (setT C (.nm i) w η S1)).bind fun η1 S2 => .ok (Flow.nx η1) S2) R h fun w v ρ1 S1 H1 R1 e1 r1 h1 => by
      replace h1 : Sat G (fun c d H => W' c d σ H) ρ1 S1 H1 ((noExc (if i < η.length then .ok (η.set i (some w)) S1 else .stk)).bind fun η1 S2 => .ok (Flow.nx η1) S2) (FlowOk G none D) := h1
      split at h1
      · next hl => exact h1.now R1.st _ (R1.set r1 hl)
      · exact h1.elim
theorem noExc_ne {α : Type} {r : Res α} : ∀ c fs S', noExc r ≠ .exc c fs S' := fun c fs S' h => by
  cases r <;> cases h
theorem Sat.noE {α : Type} {ρ : Rho} {S : Store} {H : Hp} {W1 : XK} {r : Res α} {P : α → Rho → Store → Hp → Prop} (h : Sat G W1 ρ S H (noExc r) P) : Sat G noX ρ S H r P := by
  cases r with
  | ok a S' => exact h
  | exc c fs S' => exact (show False from h).elim
  | stk => exact (show False from h).elim
/-- what comes first may raise, the rest may not -/
theorem b_one {W' : L2.WX} {st : Stmt} {sts : List Stmt} {is : IS} {iss : ISs} (h1 : PS X st (RB G W' (execS C is))) (h2 : PSs X sts (RSs G noX C iss)) : PSs X (st :: sts) (RB G W' (execB C (.one is iss))) :=
  (pss_cons h1 h2).of fun D σ H ⟨ρ, η, St, R, h⟩ => by
    replace h : Sat G (fun c d H => W' c d σ H) ρ St H ((execS C is η St).bind fun f S1 => match f with
      | .nx η1 => noExc (execSs C iss η1 S1)
      | f => .ok f S1) (FlowOk G none D) := h
    refine ⟨ρ, η, St, R, h.bind.mono fun f ρ1 S1 H1 _ _ ⟨e1, R1, h1⟩ => ?_⟩
    cases f with
    | nx η1 => exact fun σ1 RA => ⟨ρ1, η1, S1, RA, h1.noE⟩
    | brk η1 => exact fun σ RA => (h1.now R1 : FlowOk G none D (.brk η1) ρ1 S1 H1) σ RA
    | cont η1 => exact fun σ RA => (h1.now R1 : FlowOk G none D (.cont η1) ρ1 S1 H1) σ RA
    | ret w => exact fun v r => (h1.now R1 : FlowOk G none D (.ret w) ρ1 S1 H1) v r
theorem b_if {W' : L2.WX} {sa sb sts : List Stmt} {ja jb : IB} {iss : ISs} (hc : PT X c (RT G none W' C ie)) (ha : PSs X sa (RB G W' (execB C ja))) (hb : PSs X sb (RB G W' (execB C jb))) (h2 : PSs X sts (RSs G noX C iss)) :
    PSs X (.If c sa sb pos :: sts) (RB G W' (execB C (.ifb ie ja jb iss))) :=
  (pss_cons (ps_if hc ha hb) h2).of fun D σ H ⟨ρ, η, St, R, h⟩ => by
    replace h : Sat G (fun c d H => W' c d σ H) ρ St H (((evalT C ie η St).bind fun k S1 => if k = true then execB C ja η S1 else execB C jb η S1).bind fun f S1 => match f with
      | .nx η1 => noExc (execSs C iss η1 S1)
      | f => .ok f S1) (FlowOk G none D) := h
    rw [Res.bind_assoc] at h
    have fin : ∀ {ρ1 : Rho} {S1 : Store} {H1 : Hp} {m : Res Flow}, Sat G (fun c d H => W' c d σ H) ρ1 S1 H1 (m.bind fun f S1 => match f with
      | .nx η1 => noExc (execSs C iss η1 S1)
      | f => .ok f S1) (FlowOk G none D) → Sat G (fun c d H => W' c d σ H) ρ1 S1 H1 m (FlowOk G none { nx := fun σ' H' => RSs G noX C iss D σ' H', rt := D.rt, bk := D.bk, ct := D.ct }) := fun h => h.bind.mono fun f ρ1 S1 H1 _ _ ⟨e1, R1, h1⟩ => by
        cases f with
        | nx η1 => exact fun σ1 RA => ⟨ρ1, η1, S1, RA, h1.noE⟩
        | brk η1 => exact fun σ RA => (h1.now R1 : FlowOk G none D (.brk η1) ρ1 S1 H1) σ RA
        | cont η1 => exact fun σ RA => (h1.now R1 : FlowOk G none D (.cont η1) ρ1 S1 H1) σ RA
        | ret w => exact fun v r => (h1.now R1 : FlowOk G none D (.ret w) ρ1 S1 H1) v r
    refine rd1t (Wx := W') (f := fun k S1 => (if k = true then execB C ja η S1 else execB C jb η S1).bind fun f S1 => match f with
      | .nx η1 => noExc (execSs C iss η1 S1)
      | f => .ok f S1) R h fun z ρ1 S1 H1 R1 e1 h1 => ?_
    cases z with
    | true => exact ⟨ρ1, η, S1, R1, fin h1⟩
    | false => exact ⟨ρ1, η, S1, R1, fin h1⟩

/-! ### the handled error is held by a name -/
theorem RelW.exn_to {L : Addr → Prop} {ρ : Rho} {H : Hp} {w : W} {v : V} (r : RelW G none L ρ H w v) : RelW G ex L ρ H w v := by
  cases r with
  | d r => exact .d r
  | loc r => exact .loc r
  | scr r => exact .scr r
  | exn h => cases h
theorem RelAll.exn_to {ρ : Rho} {η : Env} {S : Store} {σ : L2.St} {H : Hp} (R : RelAll G none ρ η S σ H) : RelAll G ex ρ η S σ H :=
  ⟨R.st, R.len, fun i w h => let ⟨v, e1, r⟩ := R.slot i w h; ⟨v, e1, r.exn_to⟩⟩
theorem noExn_get : ∀ {η : Env} (h : noExn η = true) {i : Nat} {w : W}, η[i]? = some (some w) → ∀ c fs, w ≠ .exn c fs
  | [], _, i, w, e => by simp at e
  | none :: r, h, i, w, e => by
    cases i with
    | zero => simp at e
    | succ i => exact noExn_get (η := r) (by simpa [noExn] using h) (i := i) (by simpa using e)
  | some u :: r, h, i, w, e => by
    cases i with
    | zero =>
      simp at e
      subst e
      intro c fs z
      subst z
      simp [noExn] at h
    | succ i =>
      refine noExn_get (η := r) ?_ (i := i) (by simpa using e)
      cases u <;> simp_all [noExn]
theorem RelAll.exn_off {ρ : Rho} {η : Env} {S : Store} {σ : L2.St} {H : Hp} (R : RelAll G ex ρ η S σ H) (h : noExn η = true) : RelAll G none ρ η S σ H :=
  ⟨R.st, R.len, fun i w e => by
    obtain ⟨v, e1, r⟩ := R.slot i w e
    refine ⟨v, e1, ?_⟩
    cases r with
    | d r => exact .d r
    | loc r => exact .loc r
    | scr r => exact .scr r
    | exn _ _ _ _ => exact absurd rfl (noExn_get h e _ _)⟩
theorem names_c {cd : ClD} {j : Nat} (S : Sd G Wx C k X) (hg : Gl X x) (h1 : C.P.cls[j]? = some cd) (hn : cd.name = x) (hdb : (x == ("__debug__" : Str)) = false) : Names X x (.ref (G.ca j)) := by
  subst hn
  exact ⟨hg, hdb, .inl (S.cmg j cd h1)⟩
theorem cls_of {P : Prog} {c : Nat} (h : excC P c = true) : ∃ cd fs, P.cls[c]? = some cd ∧ cd.exc = some fs := by
  unfold excC at h
  split at h
  · next k e =>
    obtain ⟨fs, h2⟩ := Option.isSome_iff_exists.mp h
    exact ⟨k, fs, e, h2⟩
  · cases h
theorem tyIs_exc {P : Prog} {c c' : Nat} (h : tyIs P (.cls c) (.cls c') = true) : ∃ cd, P.cls[c]? = some cd := by
  unfold tyIs at h
  simp only at h
  split at h
  · next k e => exact ⟨k, e⟩
  · cases h
/-- try: .. except X as n: .. -/
theorem s_try {n : Str} {np hp' : Pos} {body suite : List Stmt} {b₀ : Stmt} {ib' : IB} {js : ISs} {j : Nat} {cd : ClD} {fs0 : List Nat} (S : Sd G (wE E) C k X) (hst : X.stack = X.env :: X.outer) (hfr : X.env.frame = some X.env.locals)
    (hi : X.N[i]? = some n) (hln : X.env.kindOf n = some .local) (hg : Gl X x) (h1 : C.P.cls[j]? = some cd) (hn : cd.name = x) (hx : cd.exc = some fs0)
    (hb : ∀ (W' : L2.WX) (pn : List (Addr × Obj)) (xe : Value → Shared → Prop), Sd G W' C k (X.tr pn xe) → Sd G (wE noX) C k (X.tr pn xe) → PassesOwn (model X.prog X.w) X.A X.env xe → PSs (X.tr pn xe) body (RB G W' (execB C ib')))
    (hsu : ∀ (a : Addr) (oe : Obj) (cls : Value) (d : Option Addr) (pn : List (Addr × Obj)), Zc cls d oe → (∃ vs, oe.data = .fields vs) → Sd G (wE noX) C k (X.suite a ((a, oe) :: pn)) → PSs (X.suite a ((a, oe) :: pn)) (b₀ :: suite) (RSsx G (some (a, cls, d)) noX C js))
    (hdb : (x == ("__debug__" : Str)) = false := by decide) :
    PS X (.Try body [.ExceptHandler (some (.Name x np)) (some n) (b₀ :: suite) hp'] [] [] pos) (RS G E C (.tryx ib' j i js)) := by
  refine (ps_try_as (tb := fun W' => RB G W' (execB C ib')) (ts := fun a cls d => RSsx G (some (a, cls, d)) noX C js) hst hfr S.nd hi hln (names_c S hg h1 hn hdb) S.tk
    (fun W' pn xe tk ps => hb W' pn xe (S.tr pn xe tk) (S.tr pn xe takes0) ps) (fun a oe cls d pn hz hf => hsu a oe cls d pn hz hf (S.suite a _))).of fun D σ H ⟨ρ, η, St, R, h⟩ => ?_
  refine ⟨ρ, η, St, R, ?_⟩
  replace h : Sat G E ρ St H (match execB C ib' η St with
    | .exc c' fs S1 => if excC C.P c' = true ∧ i < η.length then (if tyIs C.P (.cls c') (.cls j) = true then
        (noExc (execSs C js (η.set i (some (.exn c' fs))) S1)).bind fun f S2 => match f with
          | .nx η1 => if noExn (η1.set i none) = true then .ok (.nx (η1.set i none)) S2 else .stk
          | _ => .stk
      else .exc c' fs S1) else .stk
    | r => r) (FlowOk G none D) := h
  cases hr : execB C ib' η St with
  | ok f S' => rw [hr] at h; exact h
  | stk => rw [hr] at h; exact h
  | exc c' fs S1 =>
    rw [hr] at h
    dsimp only at h
    by_cases hcl : excC C.P c' = true ∧ i < η.length
    case neg => rw [if_neg hcl] at h; exact h.elim
    rw [if_pos hcl] at h
    obtain ⟨hc', hlt⟩ := hcl
    obtain ⟨cd', fs', e1, e2⟩ := cls_of hc'
    have T := S.exf c' cd' fs' e1 e2
    have hj : excC C.P j = true := by unfold excC; rw [h1]; simp [hx]
    intro dx ρ' H' ext RS' rx
    refine ⟨tyIs C.P (.cls c') (.cls j), T.exm j hj, fun hb1 a0 ha0 => ?_, fun hb0 => ?_⟩
    · rw [hb1] at h
      simp only [if_true] at h
      have Rm := (R.mono ext RS').exn_to (ex := some (a0, Value.ref (G.ca c'), dx))
      have rexn : RelW G (some (a0, Value.ref (G.ca c'), dx)) (Live ρ' S1) ρ' H' (.exn c' fs) (.ref a0) := by
        rcases rx with ⟨rfl, rfl⟩ | ⟨d, vs, rfl, hd, nl, rf⟩
        · exact .exn (vs := []) rfl (fun d e => by cases e) (fun _ => rfl) .nil
        · exact .exn (vs := vs) rfl (fun d' e => by cases e; exact ⟨hd, nl⟩) (fun e => by cases e) rf
      refine ⟨ρ', η.set i (some (.exn c' fs)), S1, Rm.set rexn hlt, ?_⟩
      have h2 : Sat G noX ρ' S1 H' ((noExc (execSs C js (η.set i (some (.exn c' fs))) S1)).bind fun f S2 => match f with
        | .nx η1 => if noExn (η1.set i none) = true then .ok (Flow.nx (η1.set i none)) S2 else .stk
        | _ => .stk) (FlowOk G none D) := by
        have h3 := h.from ext
        cases hq : execSs C js (η.set i (some (.exn c' fs))) S1 with
        | ok f S2 =>
          rw [hq] at h3
          simp only [noExc_ok, Res.bind_ok] at h3 ⊢
          cases f with
          | nx η1 =>
            dsimp only at h3 ⊢
            split at h3
            · next q => rw [if_pos q]; exact h3
            · exact h3.elim
          | _ => exact h3.elim
        | exc c fs S2 => rw [hq] at h3; exact (show False from h3).elim
        | stk => rw [hq] at h3; exact (show False from h3).elim
      refine Sat.noE (W1 := noX) (h2.bind.mono fun f ρ1 S2 H1 _ _ ⟨e1', R1, h4⟩ => ?_)
      cases f with
      | nx η1 =>
        dsimp only at h4
        split at h4
        · next q => exact fun σ1 RA => (h4.now R1 : FlowOk G none D (.nx (η1.set i none)) ρ1 S2 H1) _ (RA.unset.exn_off q)
        · exact h4.elim
      | _ => exact (show False from h4).elim
    · rw [hb0] at h
      exact h dx ρ' H' ext RS' rx
end
end RI
/-! RI20: what an except suite asks of its error; counts and places in lists. -/
namespace RI
open PySem PySem.Spec PyProof.Rows L2
section
variable {G : Wd} {ex : Ex} {Wx : L2.WX} {C : Ctx} {k : Nat} {X : Cx} {pos p p2 apos : Pos} {x : Str} {i : Nat} {a b c e o : Expr} {ia ib ic io ie : IE} {es : List Expr} {ies : IEs}
/-! ### list.count, list.index -/
theorem RelDs.allEq {L : Addr → Prop} {H : Hp} {x : D} {v : V} (r : RelD G L H x v) (fx : flatD x = true) : ∀ {xs : List D} {vs : List V}, RelDs G L H xs vs → xs.all flatD = true → ∀ (j : Nat) (z : V), vs[j]? = some z → ∃ y, xs[j]? = some y ∧ eqV z v = eqF y x
  | _, _, .nil, _, j, z, e => by simp at e
  | _, _, .cons q h, f, j, z, e => by
    simp only [List.all_cons, Bool.and_eq_true] at f
    cases j with
    | zero =>
      simp at e
      subst e
      exact ⟨_, rfl, (RelDs.flat r fx).2 q f.1⟩
    | succ j => exact RelDs.allEq r fx h f.2 j z (by simpa using e)
theorem countP_eqU {x : V} : ∀ {xs : List V} {us : List Value}, Vals xs us → xs.all flatV = true → us.countP (eqU x) = xs.countP fun y => eqV y x
  | _, _, .nil, _ => rfl
  | y :: xs, u :: us, .cons r t, f => by
    rw [List.all_cons, Bool.and_eq_true] at f
    rw [List.countP_cons, List.countP_cons, eqU_of r f.1, countP_eqU t f.2]
theorem RelDs.countEq {L : Addr → Prop} {H : Hp} {x : D} {v : V} (r : RelD G L H x v) (fx : flatD x = true) : ∀ {xs : List D} {vs : List V}, RelDs G L H xs vs → xs.all flatD = true → (vs.countP fun y => eqV y v) = xs.countP fun y => eqF y x
  | _, _, .nil, _ => rfl
  | _, _, .cons q h, f => by
    simp only [List.all_cons, Bool.and_eq_true] at f
    rw [List.countP_cons, List.countP_cons, (RelDs.flat r fx).2 q f.1, RelDs.countEq r fx h f.2]
theorem mt_cnt (hK : X.K = G.K) : MtR X "list.count" (rBm G ex .count) := by
  rintro pins s σ H x xs v us Q I rx rv ⟨ρ, S, o, ws, w, S', R, ro, rw', e, k⟩
  unfold bmD at e
  split at e <;> try (first | cases e | contradiction)
  next w0 d hm =>
  split at e
  · next ys e1 =>
    split at e
    · next hf =>
      cases e
      simp only [Bool.and_eq_true] at hf
      obtain ⟨y, rfl, r⟩ := rw'.one
      have rd := r.d_inv
      obtain ⟨l, vs, rfl, hl, rz⟩ := ro.lstOf R e1
      have fl := RelDs.flat rd hf.1
      have fa := RelDs.allFlat rz hf.2
      cases rx
      obtain ⟨u, rfl, ru⟩ := rv.one
      obtain ⟨its, rvs, ⟨⟨cls, dd, data, sl⟩, n, ho, hc, hdn, hd⟩, hlen⟩ := I.list (SqL.of hl)
      simp only at hc hd
      subst hc hd
      refine call_meets PySem.F.slot_list_count ⟨_, ho, rfl⟩ PySem.F.entry_list_count (PySem.F.args_list_count_2 _ _)
        (SeqAt.list_countAt l its.toArray n dd sl u (eqU y)) ⟨ho, fun z hz => mem_eqAt ru fl.1 rvs fa z (by simpa using hz), ?_⟩
      have ec : its.toArray.toList.countP (eqU y) = ys.countP (eqF · d) := by
        show its.countP (eqU y) = _
        rw [countP_eqU rvs fa, RelDs.countEq rd hf.1 rz hf.2]
      refine ⟨.int (ys.countP (eqF · d) : Nat), H, I.tok _, ⟨s.toks, ?_⟩, k _ _ .refl R (.d (.int _))⟩
      show Value.int ((its.toArray.toList.countP (eqU y) : Nat) : Int) s.toks = Value.int ((ys.countP (eqF · d) : Nat) : Int) s.toks
      rw [ec]
    · cases e
  · cases e
theorem mt_ind (hK : X.K = G.K) : MtR X "list.index" (rBm G ex .index) := by
  rintro pins s σ H x xs v us Q I rx rv ⟨ρ, S, o, ws, w, S', R, ro, rw', e, k⟩
  unfold bmD at e
  split at e <;> try (first | cases e | contradiction)
  next w0 d hm =>
  split at e
  · next ys e1 =>
    split at e
    · next hf =>
      cases e
      simp only [Bool.and_eq_true] at hf
      obtain ⟨⟨⟨f1, f2⟩, f3⟩, f4⟩ := hf
      obtain ⟨y, rfl, r⟩ := rw'.one
      have rd := r.d_inv
      obtain ⟨l, vs, rfl, hl, rz⟩ := ro.lstOf R e1
      have fl := RelDs.flat rd f1
      have fa := RelDs.allFlat rz f2
      have hlt : ys.findIdx (eqF · d) < ys.length := by
        rw [List.findIdx_lt_length]
        simpa using f3
      obtain ⟨z, hz, rz1⟩ := rz.get (List.getElem?_eq_getElem hlt)
      refine mt_index pins s σ H _ _ v us Q I rx rv ⟨l, vs, y, _, z, rfl, rfl, SqL.of hl, fl.1, fa, hz, ?_, fun m z' hm hz' => ?_, k _ _ .refl R (.d (.int _))⟩
      · obtain ⟨y', hy', e'⟩ := RelDs.allEq rd f1 rz f2 _ _ hz
        rw [e']
        rw [List.getElem?_eq_getElem hlt] at hy'
        cases hy'
        exact List.findIdx_getElem (w := hlt)
      · obtain ⟨y', hy', e'⟩ := RelDs.allEq rd f1 rz f2 _ _ hz'
        rw [e']
        have hml : m < ys.length := by omega
        rw [List.getElem?_eq_getElem hml] at hy'
        cases hy'
        simpa using List.not_of_lt_findIdx hm
    · cases e
  · cases e
theorem e_count (S : Sd G Wx C k X) (ho : PE X o (RE G ex Wx C io)) (ha : PA X [e] (REs G ex Wx C ies)) (hbase : attributeBase o "count" X.env (eval o X.env) = eval o X.env := by rfl) (hline : (apos.endLine == pos.line) = true := by rfl)
    (hs : starEach [e] X.env = (false, eval e X.env) :: starEach [] X.env := by rfl) : PE X (.Call (.Attribute o "count" apos) [e] [] pos) (RE G ex Wx C (.bm io .count ies)) :=
  (pe_bm PySem.F.plainAttrs_list PySem.F.slot_list_count PySem.F.type_list_count (mt_cnt (G := G) (ex := ex) S.hK) ho ha hbase (by rw [hs]; rfl) hline hs rfl).of fun σ H Q h => bm_of (fun _ _ _ _ _ R r q => recv_list (by decide) R r q) h
theorem e_index (S : Sd G Wx C k X) (ho : PE X o (RE G ex Wx C io)) (ha : PA X [e] (REs G ex Wx C ies)) (hbase : attributeBase o "index" X.env (eval o X.env) = eval o X.env := by rfl) (hline : (apos.endLine == pos.line) = true := by rfl)
    (hs : starEach [e] X.env = (false, eval e X.env) :: starEach [] X.env := by rfl) : PE X (.Call (.Attribute o "index" apos) [e] [] pos) (RE G ex Wx C (.bm io .index ies)) :=
  (pe_bm PySem.F.plainAttrs_list PySem.F.slot_list_index PySem.F.type_list_index (mt_ind (G := G) (ex := ex) S.hK) ho ha hbase (by rw [hs]; rfl) hline hs rfl).of fun σ H Q h => bm_of (fun _ _ _ _ _ R r q => recv_list (by decide) R r q) h

/-! ### the error -/
theorem exn_at {a0 : Addr} {oe : Obj} {cls : Value} {d : Option Addr} {pn : List (Addr × Obj)} {Da : Addr} {pins : List (Addr × Obj)} {σ : L2.St} {H : Hp} {s : Shared} (I : Inv (X.suite a0 ((a0, oe) :: pn)) pins σ H s) (hz : Zc cls d oe) (hf : ∃ vs, oe.data = .fields vs) (hc : cls = .ref Da)
    (hd : ∀ dd, d = some dd → ∃ vs, H dd = some (.xd vs)) : (d = none ∧ PySem.W.InstAt s.heap a0 oe Da none) ∨ ∃ dd vs od, d = some dd ∧ H dd = some (.xd vs) ∧ s.heap.get? dd = some od ∧ PySem.W.InstAt s.heap a0 oe Da (some od) := by
  obtain ⟨hget, _⟩ := I.pin (a0, oe) (List.mem_append_left _ List.mem_cons_self)
  obtain ⟨ws, hv⟩ := hf
  obtain ⟨h1, h2⟩ := hz
  have hno : PySem.W.notCls oe = true := by unfold PySem.W.notCls; rw [hv]
  cases d with
  | none => exact .inl ⟨rfl, hget, h1.trans hc, hno, by rw [h2]; trivial⟩
  | some dd =>
    obtain ⟨vs, hx⟩ := hd dd rfl
    have ho : ObjOk X.prog X.w H s.heap dd (.xd vs) := I.hok dd _ hx
    obtain ⟨mA, hns, hr⟩ := ho
    obtain ⟨od, es', ep', hod, _⟩ := hns
    exact .inr ⟨dd, vs, od, rfl, hx, hod, hget, h1.trans hc, hno, by rw [h2]; exact hod⟩
/-- isinstance(e, c) -/
def rIsX (K : PySem.W.Frag) (cls : Value) (a0 : Addr) (d : Option Addr) : List V → Hp → VK → Prop := fun xs H Q => ∃ (Da : Addr) (c : V) (cv : Value) (b : Bool), cls = .ref Da ∧ ExcC K Da ∧ xs = [.ref a0, c] ∧ ClsV c cv ∧ (∀ dd, d = some dd → ∃ vs, H dd = some (.xd vs)) ∧ PySem.W.kitOne K (.ref Da) cv = some b ∧ Q (.bl b) H
theorem clsIn_some {K : PySem.W.Frag} {Da : Addr} (h : PySem.W.hasDictIn K Da = true) : (PySem.W.clsIn K Da).isSome = true := by
  unfold PySem.W.hasDictIn at h
  cases hc : PySem.W.clsIn K Da with
  | none => rw [hc] at h; cases h
  | some c => rfl
theorem call_isX {a0 : Addr} {oe : Obj} {cls : Value} {d : Option Addr} {pn : List (Addr × Obj)} (hz : Zc cls d oe) (hf : ∃ vs, oe.data = .fields vs) : CallR (X.suite a0 ((a0, oe) :: pn)) (.builtin "isinstance") (rIsX X.K cls a0 d) := by
  rintro pins s σ H xs us Q I r ⟨Da, c, cv, b, hc, Ce, rfl, hcv, hd, e, q⟩
  obtain ⟨u1, u2, rfl, r1, r2⟩ := vals2 r
  have e2 := hcv.eq r2
  subst e2
  cases r1
  have fin : ∀ tk, EP (X.suite a0 ((a0, oe) :: pn)) pins σ Q (.bool b) { s with toks := tk } := fun tk => ⟨.bl b, H, I.tok tk, rfl, q⟩
  rcases exn_at I hz hf hc hd with ⟨rfl, J⟩ | ⟨dd, vs, od, rfl, _, _, J⟩
  · exact PySem.W.kia_one (PySem.W.kitx_exc (od := none) (ox := oe) (clsIn_some Ce.hd) Ce.hg Ce.hk Ce.hs Ce.ha Ce.hn Ce.ht Ce.hm) I.kIn J e (fun z => nomatch z) fin
  · exact PySem.W.kia_one (PySem.W.kitx_exc (od := some od) (ox := oe) (clsIn_some Ce.hd) Ce.hg Ce.hk Ce.hs Ce.ha Ce.hn Ce.ht Ce.hm) I.kIn J e (fun z => nomatch z) fin
theorem exn_inv {L : Addr → Prop} {ρ : Rho} {H : Hp} {a0 : Addr} {cls : Value} {d : Option Addr} {cc : Nat} {fs : List (Nat × D)} {v : V} (r : RelW G (some (a0, cls, d)) L ρ H (.exn cc fs) v) :
    v = .ref a0 ∧ cls = .ref (G.ca cc) ∧ ∃ vs, (∀ dd, d = some dd → H dd = some (.xd vs) ∧ ¬ L dd) ∧ (d = none → vs = []) ∧ RelFs G L H fs vs := by
  cases r with
  | exn h1 h2 h3 h4 => cases h1; exact ⟨rfl, rfl, _, h2, h3, h4⟩
theorem e_isx {t : Ty} {a0 : Addr} {oe : Obj} {cls : Value} {d : Option Addr} {pn : List (Addr × Obj)} (S : Sd G Wx C k (X.suite a0 ((a0, oe) :: pn))) (hz : Zc cls d oe) (hf : ∃ vs, oe.data = .fields vs) (hg : Gl X "isinstance")
    (he : PE (X.suite a0 ((a0, oe) :: pn)) e (RE G (some (a0, cls, d)) Wx C ie)) (ht : TyE G (X.suite a0 ((a0, oe) :: pn)) c t) (hok : tyX C.P t = true := by rfl)
    (h1 : starEach [e, c] X.env = (false, eval e X.env) :: starEach [c] X.env := by rfl) (h2 : starEach [c] X.env = (false, eval c X.env) :: starEach [] X.env := by rfl) (hpl : (backTo pos (starEach [c] X.env)).any (·.1) = false := by rfl) :
    PE (X.suite a0 ((a0, oe) :: pn)) (.Call (.Name "isinstance" p) [e, c] [] pos) (RE G (some (a0, cls, d)) Wx C (.isx ie t)) := by
  obtain ⟨v, hv, hc⟩ := ht
  refine (pe_callB (call_isX hz hf) hg (S.bmg _ (by decide)) (by rfl) (pa_cons he (pa_cons hc pa_nil h2) h1) (by decide) (by decide) h1 hpl).of fun σ H Q h => ?_
  obtain ⟨ρ, η, St, R, h0⟩ := h
  refine rd1 (f := fun x S1 => match x with
    | .exn c _ => if excC C.P c = true then .ok (W.d (.bl (tyIs C.P (.cls c) t))) S1 else .stk
    | _ => .stk) R h0 fun w v1 ρ1 S1 H1 R1 e1 r1 h3 => ?_
  cases w with
  | exn c2 fs2 =>
    dsimp only at h3
    obtain ⟨rfl, hcl, vs, hd, _, _⟩ := exn_inv r1
    split at h3
    · next hcc =>
      obtain ⟨cd', fs', e1, e2⟩ := cls_of hcc
      have T := S.exf c2 cd' fs' e1 e2
      exact ⟨G.ca c2, v, tyVal G t, tyIs C.P (.cls c2) t, hcl, T.cl, rfl, hv, fun dd e => ⟨vs, (hd dd e).1⟩, T.kit t hok, h3.now R1.st _ (.d (.bl _))⟩
    · exact h3.elim
  | _ => exact (show False from h3).elim
/-- e.f -/
def tExn (K : PySem.W.Frag) (n : Str) (cls : Value) (a0 : Addr) (d : Option Addr) (te : TE) : TE := fun σ H Q => te σ H fun x H1 => x = .ref a0 ∧ ∃ (Da dd : Addr) (vs : List (Str × V)) (v : V), cls = .ref Da ∧ ExcC K Da ∧ PySem.W.findIn K (.ref Da) n = some none ∧ d = some dd ∧ H1 dd = some (.xd vs) ∧ vs.lookup n = some v ∧ Q v H1
theorem pe_exn {n : Str} {a0 : Addr} {oe : Obj} {cls : Value} {d : Option Addr} {pn : List (Addr × Obj)} {te : TE} (hz : Zc cls d oe) (hf : ∃ vs, oe.data = .fields vs) (he : PE (X.suite a0 ((a0, oe) :: pn)) e te)
    (hb : attributeBase e n X.env (eval e X.env) = eval e X.env := by rfl) : PE (X.suite a0 ((a0, oe) :: pn)) (.Attribute e n pos) (tExn X.K n cls a0 d te) := by
  refine ⟨fun pins s σ H Q I h => attr_of hb (thn (he.run pins s σ H _ I h) fun u s1 hh => ?_)⟩
  obtain ⟨x, H1, I1, rx, ex, Da, dd, vs, v, ec, Ce, hno, ed, hx, hl, q⟩ := hh
  subst ex
  obtain rfl : u = Value.ref a0 := rx
  subst ed
  have hx2 : ObjOk X.prog X.w H1 s1.heap dd (.xd vs) := I1.hok dd _ hx
  obtain ⟨mA, hns, hr⟩ := hx2
  obtain ⟨od, ho, hlk⟩ := lookIn_ns hns
  obtain ⟨hget, _⟩ := I1.pin (a0, oe) (List.mem_append_left _ List.mem_cons_self)
  obtain ⟨ws, hv⟩ := hf
  have J : PySem.W.InstAt s1.heap a0 oe Da (some od) := ⟨hget, hz.1.trans ec, by unfold PySem.W.notCls; rw [hv], by rw [hz.2]; exact ho⟩
  obtain ⟨u, hu, ru⟩ := RelO.some_of (v := v) (o := mA n) (by have := hr n; rw [hl] at this; exact this)
  exact HandSPX.exc_get I1.kIn J Ce.hg Ce.hk Ce.hs (PySem.W.findObj_own Ce.hd hno rfl (by rw [hlk, hu])) (handed_of ru) ⟨v, H1, I1.tok _, ru, q⟩
theorem e_flx {f : Nat} {n : Str} {ns : List Str} {a0 : Addr} {oe : Obj} {cls : Value} {d : Option Addr} {pn : List (Addr × Obj)} (S : Sd G Wx C k (X.suite a0 ((a0, oe) :: pn))) (hz : Zc cls d oe) (hf : ∃ vs, oe.data = .fields vs) (hfl : C.P.flds.contains f = true) (hnm : G.nm = nmOf ns) (hn : nmOf ns f = n)
    (he : PE (X.suite a0 ((a0, oe) :: pn)) e (RE G (some (a0, cls, d)) Wx C ie)) (hb : attributeBase e n X.env (eval e X.env) = eval e X.env := by rfl) :
    PE (X.suite a0 ((a0, oe) :: pn)) (.Attribute e n pos) (RE G (some (a0, cls, d)) Wx C (.flx ie f)) := by
  subst hn
  rw [← hnm]
  refine (pe_exn hz hf he (by rw [hnm]; exact hb)).of fun σ H Q h => ?_
  obtain ⟨ρ, η, St, R, h0⟩ := h
  refine rd1 (f := fun x S1 => match x with
    | .exn c fs => if excC C.P c = true then (ofO (lookN f fs) S1).bind fun z S2 => .ok (W.d z) S2 else .stk
    | _ => .stk) R h0 fun w v1 ρ1 S1 H1 R1 e1 r1 h3 => ?_
  cases w with
  | exn c2 fs2 =>
    dsimp only at h3
    obtain ⟨rfl, hcl, vs, hd, hn0, rf⟩ := exn_inv r1
    split at h3
    · next hcc =>
      obtain ⟨z, ez, h4⟩ := h3.ofO_bind
      obtain ⟨cd', fs', e1, e2⟩ := cls_of hcc
      have T := S.exf c2 cd' fs' e1 e2
      obtain ⟨v, ev, rv⟩ := rf.look S.nmI ez
      cases d with
      | none =>
        rw [hn0 rfl] at ev
        cases ev
      | some dd => exact ⟨rfl, G.ca c2, dd, vs, v, hcl, T.cl, T.nof f hfl, rfl, (hd dd rfl).1, ev, h4.now R1.st _ (.d rv)⟩
    · exact h3.elim
  | _ => exact (show False from h3).elim
end
end RI
/-! RI21: the error classes' facts; a law's end. -/
namespace RI
open PySem PySem.Spec PyProof.Rows L2
theorem FnG.quiet {Pm : Program} {w : World} {K : PySem.W.Frag} {mg : Str → Option Value} {base : Heap} {k : Nat} {f : Addr} {fd : FuncData} {ps : List Str} {sp : Sp} (F : FnG Pm w K mg base (L2.CX Pm w) k f fd ps sp) :
    FnG Pm w K mg base L2.CX0 k f fd ps (fun vs H Q _ => sp vs H Q fun _ _ _ => False) := by
  refine ⟨fun vs H Q E h => F.len vs H Q _ h, fun A outer s H args us vs Q E gd hr e0 hb r h => codeAny_mono (F.run A outer s H args us vs Q _ gd hr e0 hb r h) fun q s' hq => ?_⟩
  cases q with
  | error e =>
    obtain ⟨a, B, H', cls, d, h1⟩ := hq
    exact (h1.2.2.2.2.2.2.2).elim
  | ok fl => cases fl <;> exact hq

/-! ### the __init__ of an error class -/
structure XInit (P : Prog) (ns : List Str) (fd : FnD) (d : He.DefD) (f : Nat) : Prop where
  np : fd.np = 2 ∧ fd.N.length = 2
  fl : P.flds.contains f = true
  body : ∀ (Pm : Program) (w : World) (K : PySem.W.Frag) (mg : Str → Option Value) (base : Heap) (fa : Addr) (cdv : Value) (A : Around) (outer : List PySem.Env) (s : Shared) (H : Hp) (E : XK),
    PSs (cxOf CX0 Pm w K mg base fd.N d.qual d.scope fa cdv A outer s H E) d.body (tOst K (nmOf ns f) (tVar 0) (tVar 1))
inductive AllXi (P : Prog) (ns : List Str) (ds : List He.DefD) : List ClD → Prop where
  | nil : AllXi P ns ds []
  | plain {c : ClD} {cs : List ClD} : (∀ f, c.exc ≠ some [f]) → AllXi P ns ds cs → AllXi P ns ds (c :: cs)
  | own {c : ClD} {cs : List ClD} {f fi : Nat} {fd : FnD} {d : He.DefD} : c.exc = some [f] → c.xin = some fi → P.fns[fi]? = some fd → ds[fi]? = some d → XInit P ns fd d f → AllXi P ns ds cs → AllXi P ns ds (c :: cs)
abbrev AllXI (P : Prog) (ns : List Str) (ds : List He.DefD) : Prop := AllXi P ns ds P.cls
theorem AllXi.get {P : Prog} {ns : List Str} {ds : List He.DefD} {cs : List ClD} (h : AllXi P ns ds cs) : ∀ {i : Nat} {c : ClD} {f : Nat}, cs[i]? = some c → c.exc = some [f] → ∃ fi fd d, c.xin = some fi ∧ P.fns[fi]? = some fd ∧ ds[fi]? = some d ∧ XInit P ns fd d f := by
  induction h with
  | nil => intro i c f e; simp at e
  | plain h _ ih =>
    intro i c f e e2
    cases i with
    | zero => simp at e; subst e; exact absurd e2 (h f)
    | succ i => exact ih (by simpa using e) e2
  | own h1 h2 h3 h4 h5 _ ih =>
    intro i c f e e2
    cases i with
    | zero =>
      simp at e
      subst e
      rw [h1] at e2
      cases e2
      exact ⟨_, _, _, h2, h3, h4, h5⟩
    | succ i => exact ih (by simpa using e) e2
section
variable (P : Prog) (ds : List He.DefD) (ns : List Str) (K : PySem.W.Frag)
/-- what stands written of an error class with an __init__ -/
def oexB (C : Addr) : Bool := match K.lookup C with
  | some ⟨.type "type", _, .cls cd, sl⟩ => (match cd.mro, sl.toList with
    | .ref C' :: bm, [_, _, _, _, some (.builtin n), _] => (C' == C) && ((n == "ValueError.__new__") && (!cd.hasDel && (cd.hasDict && PySem.HandSPX.refsVE bm)))
    | _, _ => false)
  | _ => false
def excB (c : Nat) (cd : ClD) (fs : List Nat) : Bool :=
  let C := (wdOf P ds ns K).ca c
  (PySem.W.keepIn K (.ref C) && (decide (PySem.W.typeIn K (.ref C) = some (.type "type")) && (He.eqO (PySem.W.findIn K (.ref C) "__getattribute__") (some (some (.builtin "BaseException.__getattribute__"))) && He.eqO (PySem.W.findIn K (.ref C) "__getattr__") (some none)))) &&
  ((decide (PySem.W.subIn K (.ref C) (.type "BaseException") = some true) && (PySem.W.hasDictIn K C && (He.eqO (PySem.W.findIn K (.ref C) "__class__") (some (some (.builtin "object.__class__"))) && (He.eqO (PySem.W.specialIn K (.builtin "object.__class__") "__get__") (some (some (.builtin "getset_descriptor.__get__"))) &&
    (decide (PySem.W.takesIn K (.builtin "object.__class__") = some true) && decide (PySem.W.mroIn K C (.type "object") = some true)))))) &&
  ((match fs with
    | [] => PySem.W.excIn K C veB "ValueError.__new__"
    | [f] => oexB K C && (He.eqO (PySem.W.findIn K (.ref C) "__setattr__") (some (some (.builtin "object.__setattr__"))) && (match cd.xin with
      | some fi => He.eqO (PySem.W.findIn K (.ref C) "__init__") (some (some (.ref ((wdOf P ds ns K).fa fi)))) && decide (PySem.W.typeIn K (.ref ((wdOf P ds ns K).fa fi)) = some (.type "function"))
      | none => false))
    | _ => false) &&
  ((P.flds.all fun f => He.eqO (PySem.W.findIn K (.ref C) (nmOf ns f)) (some none)) &&
  (((List.range P.cls.length).all fun c' => !excC P c' || (decide (PySem.W.exmOne K (.ref C) (.ref ((wdOf P ds ns K).ca c')) = some (tyIs P (.cls c) (.cls c'))) && decide (PySem.W.kitOne K (.ref C) (.ref ((wdOf P ds ns K).ca c')) = some (tyIs P (.cls c) (.cls c'))))) &&
    decide (PySem.W.kitOne K (.ref C) (.type "ValueError") = some (tyIs P (.cls c) .valueError))))))
def exX : Bool := P.cls.zipIdx.all fun q => match q.1.exc with
  | some fs => excB P ds ns K q.2 q.1 fs
  | none => true
end
theorem oex_of {K : PySem.W.Frag} {C : Addr} (q : oexB K C = true) : ∃ nm q N bs bm sn sub ab col dd k0 k1 k2 k3 k5, K.lookup C = some (excClassObj nm q C N bs bm true sn sub ab col dd k0 k1 k2 k3 k5 "ValueError.__new__") ∧ PySem.HandSPX.refsVE bm = true := by
  unfold oexB at q
  split at q
  · rename_i dd cd sl ho
    split at q
    · rename_i C' bm k0 k1 k2 k3 n k5 hm hs
      simp only [Bool.and_eq_true, beq_iff_eq, Bool.not_eq_true'] at q
      obtain ⟨rfl, rfl, hdel, hdc, ht⟩ := q
      obtain ⟨nm, bs, mro, N, qn, hd, sn, sub, ab, col, del⟩ := cd
      dsimp only at hm hdel hdc
      subst hm hdel hdc
      have hsl : sl = #[k0, k1, k2, k3, some (.builtin "ValueError.__new__"), k5] := by
        cases sl with
        | mk l => simp only at hs; rw [hs]
      subst hsl
      exact ⟨nm, qn, N, bs, bm, sn, sub, ab, col, dd, k0, k1, k2, k3, k5, ho, ht⟩
    · cases q
  · cases q
theorem exf_of {P : Prog} {ds : List He.DefD} {ns : List Str} {Pm : Program} {w : World} {K : PySem.W.Frag} {mg : Str → Option Value} {base : Heap} (g : Gf (wdOf P ds ns K) P K w mg) (A : AllF P ns P.fns ds) (XI : AllXI P ns ds) (fa : FaOk (wdOf P ds ns K) K ds)
    (dd : ∀ d ∈ ds, ∃ fd, FunD K d.name d.qual d.params d.body d.scope (d.dvs K) (d.kws K) (He.fAd K d.at_) fd) (cx : exX P ds ns K = true) :
    ∀ c d fs, P.cls[c]? = some d → d.exc = some fs → ExF (wdOf P ds ns K) Pm w K mg base P c fs := by
  intro c cd fs h1 h2
  have hz : (cd, c) ∈ P.cls.zipIdx := by rw [List.mem_zipIdx_iff_getElem?]; exact h1
  have hq := List.all_eq_true.mp cx _ hz
  simp only [h2] at hq
  unfold excB at hq
  simp only [Bool.and_eq_true, decide_eq_true_eq] at hq
  obtain ⟨⟨k1, k2, k3, k4⟩, ⟨k5, k6, k7, k8, k9, k10⟩, k11, k12, k13, k14⟩ := hq
  have hall := List.all_eq_true.mp k13
  have pair : ∀ c', excC P c' = true → PySem.W.exmOne K (.ref ((wdOf P ds ns K).ca c)) (.ref ((wdOf P ds ns K).ca c')) = some (tyIs P (.cls c) (.cls c')) ∧ PySem.W.kitOne K (.ref ((wdOf P ds ns K).ca c)) (.ref ((wdOf P ds ns K).ca c')) = some (tyIs P (.cls c) (.cls c')) := fun c' hc => by
    have hl : c' < P.cls.length := by
      obtain ⟨cd', _, e, _⟩ := cls_of hc
      exact (List.getElem?_eq_some_iff.mp e).1
    have := hall c' (List.mem_range.mpr hl)
    rw [hc] at this
    simpa using this
  have nof : ∀ f, P.flds.contains f = true → PySem.W.findIn K (.ref ((wdOf P ds ns K).ca c)) ((wdOf P ds ns K).nm f) = some none := fun f hf => He.eqO_ok (List.all_eq_true.mp k12 f (by simpa using hf))
  refine { kC := k1, tyC := k2, cl := ⟨He.eqO_ok k3, He.eqO_ok k4, k5, k6, He.eqO_ok k7, He.eqO_ok k8, k9, k10⟩, own := fun e => by subst e; exact k11, ini := fun f e => ?_, one := ?_, nof := nof, exm := fun c' hc => (pair c' hc).1, kit := fun u hu => ?_ }
  · subst e
    obtain ⟨fi, fd, d, x1, x2, x3, XD⟩ := XI.get h1 h2
    simp only [x1, Bool.and_eq_true, decide_eq_true_eq] at k11
    obtain ⟨m1, m2, m3, m4⟩ := k11
    have O : OexC K ((wdOf P ds ns K).ca c) := ⟨oex_of m1, He.eqO_ok m2, k5, k2, k1⟩
    obtain ⟨d', hd', F⟩ := A.get x2
    rw [x3] at hd'
    cases hd'
    obtain ⟨fdat, FD⟩ := dd d (List.mem_of_getElem? x3)
    have e1 : d.dvs K = [] := by unfold He.DefD.dvs; rw [F.dfl.1]; rfl
    have e2 : d.kws K = [] := by unfold He.DefD.kws; rw [F.dfl.2]; rfl
    rw [e1, e2] at FD
    have ef := fa fi d x3
    have lN : fd.N.take fd.np = fd.N := by
      rw [XD.np.1, ← XD.np.2]
      exact List.take_length
    refine ⟨O, (wdOf P ds ns K).fa fi, fdat, fd.N.take fd.np, He.eqO_ok m3, m4, ?_, FD.bindsN F.bd⟩
    rw [ef]
    refine FD.ok (k := 0) F.sc (fun vs H Q E h => ?_) fun cdv A0 outer s H vs Q E hr h => ?_
    · obtain ⟨a, v, rfl, _⟩ := h
      rw [lN, XD.np.2]
      rfl
    · refine ⟨_, XD.body Pm w K mg base _ cdv A0 outer s H E, ?_⟩
      obtain ⟨a, v, rfl, ha, hk⟩ := h
      have hst : L2.start fd.N [V.ref a, v] = [some (V.ref a), some v] := by
        have l2 := XD.np.2
        cases hN : fd.N with
        | nil => rw [hN] at l2; simp at l2
        | cons x r =>
          cases r with
          | nil => rw [hN] at l2; simp at l2
          | cons y r2 =>
            cases r2 with
            | nil => rfl
            | cons z r3 => rw [hN] at l2; simp at l2
      rw [hst]
      exact ⟨v, rfl, .ref a, rfl, a, _, rfl, O, nof f XD.fl, .inl ⟨ha, fun dx hd hne => hk dx hd hne⟩⟩
  · cases fs with
    | nil => simp
    | cons f r =>
      cases r with
      | nil => simp
      | cons f2 r2 => simp at k11
  · cases u with
    | valueError => exact k14
    | cls c' => exact (pair c' hu).2
    | _ => cases hu
theorem law_facts {P : Prog} {ds : List He.DefD} {ns : List Str} {Pm : Program} {w : World} {K : PySem.W.Frag} {h : Heap} {mg : Str → Option Value} {fu n lid : Nat} {fd : FnD} {ld : He.DefD} {fA : Addr} (hts : ∀ (i : Nat) T x, P.tabs[i]? = some T → P.tnm[i]? = some x → TabF (wdOf P ds ns K) K w mg T x) (X : K.In h) (G : h.Ns mainGlobals mg)
    (A : AllF P ns P.fns ds) (XI : AllXI P ns ds) (hn : nmOk ns = true) (hl : P.cnm.length = P.consts.length) (hf : P.fns[lid]? = some fd) (hnp : fd.np = 1) (ht : fd.top = true) (hN : fd.N[0]? = some ("script" : Str))
    (hfa : mg fd.name = some (.ref fA)) (sd : He.SaysD [] ds K) (c : ex P ds ns K = true) (cx : exX P ds ns K = true)
    (law : ∀ xs : List Int, xs.length ≤ 63 → ∃ S', callF P fu n lid [.scr xs] [] = .ok (.d (.bl true)) S') :
    ∃ (fdat : FuncData) (sp : Sp), (∀ (s : Shared) (u : Value), BindsTo s fdat ⟨[u], []⟩ [("script", u)]) ∧
      (∀ (H : Hp) (a : Addr) (xs : List Int), xs.length ≤ 63 → Only H → SqL K H a (xs.map V.int) → sp [.ref a] H (fun v _ => v = .bl true) fun _ _ _ => False) ∧
      ∀ base : Heap, K.In base → base.Ns mainGlobals mg → FnG Pm w K mg base L2.CX0 (2 * n + 2) fA fdat [("script" : Str)] sp := by
  have g := gf_of (P := P) (ds := ds) (ns := ns) hts X G hn hl c
  have fa : FaOk (wdOf P ds ns K) K ds := fun f d e => by
    show He.fAd K ((ds[f]?.map (·.at_)).getD _) = _
    rw [e]; rfl
  have eA : (wdOf P ds ns K).fa lid = fA := by
    have := (g.fmg lid fd hf ht).symm.trans hfa
    injection this with this
    injection this
  have ps1 : fd.N.take fd.np = [("script" : Str)] := by
    rw [hnp]
    cases hq : fd.N with
    | nil => rw [hq] at hN; simp at hN
    | cons a t => rw [hq] at hN; simp at hN; subst hN; rfl
  obtain ⟨d, hd, F⟩ := A.get hf
  obtain ⟨fdat, FD⟩ := sd.defs (List.mem_of_getElem? hd)
  have e1 : d.dvs K = [] := by unfold He.DefD.dvs; rw [F.dfl.1]; rfl
  have e2 : d.kws K = [] := by unfold He.DefD.kws; rw [F.dfl.2]; rfl
  rw [e1, e2] at FD
  refine ⟨fdat, fun vs H Q _ => spF (wdOf P ds ns K) (callF P fu n lid) fd.np vs H Q fun _ _ _ => False, fun s u => ?_, fun H a xs hx ho hs => ?_, fun base hb hbg => ?_⟩
  · have := FD.bindsA F.bd s [u] (by rw [ps1]; rfl)
    rw [ps1] at this
    exact this
  · obtain ⟨S', hc⟩ := law xs hx
    refine ⟨⟨[], fun _ => False⟩, [], [.scr xs], ⟨rfl, .nil, fun l c a h => by simp at h, fun a h => by simp at h, fun a f => f.elim⟩, .cons (.scr ?_) .nil, hnp.symm, ?_⟩
    · rcases hs with (hs | hs) | hs
      · rcases ho a with h0 | ⟨o, xs', h0⟩
        · rw [h0] at hs; cases hs
        · rw [h0] at hs; cases hs
      · exact .inl hs
      · exact .inr hs
    · rw [hc]
      exact fun ρ' H' e' R' v rv => by cases rv with | d rv => cases rv; rfl
  · have F1 := fn_all (Pm := Pm) (w := w) (base := base) (fu := fu) g rfl A fa (fun d hd => sd.defs hd) (exf_of (g := g) A XI fa (fun d hd => sd.defs hd) cx) n lid fd d fdat hf hd F FD
    rw [eA, ps1] at F1
    exact FnG.quiet F1
end RI
/-! RIS: set(xs), xs a list of ints (as HandS has it for tuples). -/
namespace L2
open PySem PySem.Spec PyProof.Rows
section
variable {P : Program} {w : World} {A : Around} {E : Value → Shared → Prop} {s : Shared}
set_option maxRecDepth 100000 in
set_option maxHeartbeats 3200000 in
theorem call_set_lstI {l : Addr} {items : Array Value} (ns : List Int) {Q : Value → Shared → Prop} (hh : A.handled = none) (hl : s.heap.IsList l items) (hit : IntsAre items.toList ns) (hb : ns.length + 1 < scanBound)
    (h : ∀ (h' : Heap) (tk c : Nat), SetR w h' s.heap.objs.size (fun j => decide (j ∈ ns)) c → c ≤ ns.length → (∀ b o, s.heap.get? b = some o → h'.get? b = some o) → Q (.ref s.heap.objs.size) { s with heap := h', toks := tk }) :
    wpAny (model P w) A (call (.type "set") [.ref l]) Q E s := by
  have hisz : items.size = ns.length := by
    have q := IntsAre.length hit
    rw [Array.length_toList] at q
    exact q
  obtain ⟨c, tl, hmro⟩ := F.called_set.mro
  have hmade := F.called_set.made
  have hsub := F.called_set.sub
  refine wpAny_call (codeAny_of_tree ?_)
  show wpAny _ _ (callAny (.type "set") _) _ _ _
  refine wpAny_pure ⟨Code.quiet_builtin _ (by decide +kernel), codeAny_builtin F.entry_type_call ?_⟩
  rw [Around.under_plain (weight_type_call_type "set" [.ref l] []) rfl]
  have h1 := F.called_set.notType
  have h2 := F.called_set.canCreate
  have hct := F.typeCall_set_1 (.ref l)
  repeat (any_goals (first | assumption | wp_step))

  refine codeAny_mono (code_set_led1 (.ref l) (E := E) (Q₁ := fun obj s₁ => obj = .ref s.heap.objs.size ∧ s₁ = { s with heap := s.heap.push { cls := .type "set", dict := none, data := .set #[] 0 (.fresh 0 0 (!w.params.followText "set-order")) } }) ⟨rfl, rfl⟩) fun r s₁ hr => ?_
  cases r with
  | error e => exact hr
  | ok fl =>
    cases fl with
    | ret obj =>
      obtain ⟨rfl, rfl⟩ := hr
      have hS : (s.heap.push { cls := .type "set", dict := none, data := .set #[] 0 (.fresh 0 0 (!w.params.followText "set-order")) }).get? s.heap.objs.size = some { cls := .type "set", dict := none, data := .set #[] 0 (.fresh 0 0 (!w.params.followText "set-order")) } := Heap.get?_push_size _ rfl
      have hT : Shared.TypeIs { s with heap := s.heap.push { cls := .type "set", dict := none, data := .set #[] 0 (.fresh 0 0 (!w.params.followText "set-order")) } } (.ref s.heap.objs.size) "set" := ⟨_, hS, rfl⟩
      have hli := F.called_set.init.lookup
      have hbi := F.called_set.init.bind (.ref s.heap.objs.size)
      repeat (any_goals (first | assumption | wp_step))

      refine codeAny_mono (codeAny_call_builtin (R := wants (fun r s₂ => r = .none ∧ ∃ h' tk c, s₂ = { s with heap := h', toks := tk } ∧ SetR w h' s.heap.objs.size (fun j => decide (j ∈ ns)) c ∧ c ≤ ns.length ∧
          (∀ b o, s.heap.get? b = some o → h'.get? b = some o)) E) F.called_set.init.plain F.entry_set_init (check_set_init_1 hT ?_)) fun r₂ s₂ hr₂ => ?_
      · obtain ⟨ol, hol, hcl, nl, hdl⟩ := hl
        obtain ⟨ocls, odict, odata, oslots⟩ := ol
        simp only at hcl hdl
        subst hcl; subst hdl
        have hol' : (s.heap.push { cls := .type "set", dict := none, data := .set #[] 0 (.fresh 0 0 (!w.params.followText "set-order")) }).get? l = some { cls := .type "list", dict := odict, data := .seq items nl, slots := oslots } := Heap.get?_push_of_some _ hol
        have hsls := F.sub_list_set
        have hslf := F.sub_list_frozenset
        have hne : (Value.type "list" == Value.type "dict") = false := by decide
        have hl1 : (s.heap.push { cls := .type "set", dict := none, data := .set #[] 0 (.fresh 0 0 (!w.params.followText "set-order")) }).IsList l items := ⟨_, hol', rfl, nl, rfl⟩
        unfold Builtin.«set.__init__» noKeywords Builtin.Frozenset.updateFrom
        generalize hPI : pyIter = PI
        wp_walk
        subst hPI

        refine wpAny_pyIter_list hl1 ?_
        refine wpAny_bind (wpAny_runValue ?_)
        have hlS : l < s.heap.objs.size := Heap.lt_size hol
        have hh3 : A.in1.in1.in1.handled = none := by simp [hh]
        have hz1 : (s.heap.push { cls := .type "set", dict := none, data := .set #[] 0 (.fresh 0 0 (!w.params.followText "set-order")) }).objs.size = s.heap.objs.size + 1 := Heap.size_push ..
        have hneI : l ≠ (s.heap.push { cls := .type "set", dict := none, data := .set #[] 0 (.fresh 0 0 (!w.params.followText "set-order")) }).objs.size := by
          rw [Heap.size_push]; exact Nat.ne_of_lt (Nat.lt_succ_of_lt hlS)
        have hSf : s.heap.objs.size ∉ [(s.heap.push { cls := .type "set", dict := none, data := .set #[] 0 (.fresh 0 0 (!w.params.followText "set-order")) }).objs.size, l] := by
          rw [Heap.size_push]; simp only [List.mem_cons, List.mem_singleton, List.not_mem_nil, or_false, not_or]
          exact ⟨Nat.ne_of_lt (Nat.lt_succ_self _), Nat.ne_of_gt hlS⟩
        have hval : ∀ (i : Nat) (v : Value), items[i]? = some v → ∃ k t, ns[i]? = some k ∧ v = .int k t := fun i v hv => by
          have hi : i < ns.length := by rw [← hisz]; exact (Array.getElem?_eq_some_iff.mp hv).1
          obtain ⟨t, e⟩ := PyProof.Rows.IntsAre.int_at hit i v (by rw [Array.getElem?_toList]; exact hv)
          refine ⟨ns[i], t, List.getElem?_eq_getElem hi, ?_⟩
          rw [e, List.getD_eq_getElem?_getD, List.getElem?_eq_getElem hi] <;> rfl
        refine set_update_ints ((Walks.list hh3 _ l hneI items).toS) s.heap.objs.size
          hSf ns hisz hb hval (items.size - 0) 0 _ (by omega) (Nat.zero_le _)
          ⟨⟨_, Heap.get?_push_size _ rfl, rfl, rfl⟩, (hl1.push _)⟩ ?hS0 ?hR
        case hS0 =>
          have hget : ((s.heap.push { cls := .type "set", dict := none, data := .set #[] 0 (.fresh 0 0 (!w.params.followText "set-order")) }).push { cls := .type "list_iterator", data := .fields #[.ref l, .int 0 0] }).get? s.heap.objs.size
              = some { cls := .type "set", dict := none, data := .set #[] 0 (.fresh 0 0 (!w.params.followText "set-order")) } := Heap.get?_push_of_some _ hS
          exact ⟨0, Nat.le_refl 0, setR_new_at hget⟩
        case hR =>
          intro s' c' hm hc' hS'
          obtain ⟨h', g2, d', tk', os'⟩ := s'
          have eg : g2 = s.gens := hm.gens
          have ed : d' = s.drawn := hm.drawn
          have eo : os' = s.os := hm.os
          subst eg; subst ed; subst eo
          show wpAny _ _ _ _ _ _
          refine wpAny_pure ?_
          show wpAny _ _ (ret Value.none) _ _ _
          rw [hisz] at hc'
          refine wpAny_pure ⟨rfl, h', tk', c', rfl, hS', hc', fun b o e => ?_⟩
          have hb0 : b < s.heap.objs.size := Heap.lt_size e
          have hb1 : b ≠ s.heap.objs.size := Nat.ne_of_lt hb0
          have hb2 : b ≠ (s.heap.push { cls := .type "set", dict := none, data := .set #[] 0 (.fresh 0 0 (!w.params.followText "set-order")) }).objs.size := by
            rw [Heap.size_push]; exact Nat.ne_of_lt (Nat.lt_succ_of_lt hb0)
          exact hm.heap b o (by simp only [List.mem_cons, List.mem_singleton, List.not_mem_nil, or_false, not_or]; exact ⟨hb1, hb2⟩) (Heap.get?_push_of_some _ (Heap.get?_push_of_some _ e))

      · cases r₂ with
        | error e => exact hr₂
        | ok fl₂ =>
          cases fl₂ with
          | ret r =>
            obtain ⟨rfl, h', tk, c', rfl, hS', hc', hk'⟩ := hr₂
            repeat (any_goals (first | assumption | wp_step))
            exact h _ _ _ hS' hc' hk'
          | _ => exact hr₂.elim
    | _ => exact hr.elim

end
end L2
/-! RI22: new lists that are written later on; small displays; sets that are let go at once. -/
namespace RI
open PySem PySem.Spec PyProof.Rows L2
section
variable {G : Wd} {ex : Ex} {Wx : L2.WX} {C : Ctx} {k : Nat} {X : Cx} {pos p p2 p3 apos : Pos} {x : Str} {i : Nat} {a b c e o : Expr} {ia ib ic io ie : IE} {es : List Expr} {ies : IEs} {fd : FnD}
/-- list(..) that gets a cell -/
theorem e_listT (S : Sd G Wx C k X) (hg : Gl X "list") (ha : PA X [e] (REs G none Wx C ies)) (he : starEach [e] X.env = (false, eval e X.env) :: starEach [] X.env := by rfl) (hpl : (backTo pos (starEach [] X.env)).any (·.1) = false := by rfl) :
    PE X (.Call (.Name "list" p) [e] [] pos) (RE G none Wx C (.thaw (.bi .list ies))) :=
  (pe_callTy call_list_of hg (S.bmg _ (by decide)) (by rfl) ha (by decide) (by decide) he hpl).of fun σ H Q h => by
    obtain ⟨ρ, η, St, R, h0⟩ := h
    replace h0 : Sat G (fun c d H => Wx c d σ H) ρ St H (((evalEs C ies η St).bind fun ws S1 => (ofO (biD .list ws S1) S1).bind fun x S2 => .ok (W.d x) S2).bind fun w S1 => thawD w S1) _ := h0
    rw [Res.bind_assoc] at h0
    refine rd1s (f := fun ws S1 => ((ofO (biD .list ws S1) S1).bind fun x S2 => .ok (W.d x) S2).bind fun w S1 => thawD w S1) R h0 fun ws vs ρ1 S1 H1 R1 e1 r1 h1 => ?_
    rw [Res.bind_assoc] at h1
    obtain ⟨z, ez, h2⟩ := h1.ofO_bind
    rw [Res.bind_ok] at h2
    unfold biD at ez
    split at ez <;> try (first | contradiction | cases ez)
    next w hw =>
    simp only [Option.map_eq_some_iff] at ez
    obtain ⟨⟨kd, xs⟩, es1, rfl⟩ := ez
    obtain ⟨v, rfl, rv⟩ := r1.one
    obtain ⟨a, vs, rfl, hs, rs⟩ := rv.seqOf R1.st es1
    refine ⟨a, vs, rfl, ?_, fun l hl => h2.after (Ext.newCell (c := .lst xs) (o := .lst vs) R1.st hl) (R1.st.newLst hl rs) _ (.loc (by rw [← R1.st.len]; exact app_get _ _))⟩
    rcases hs with ⟨_, hs⟩ | ⟨_, hs⟩
    · exact .inr (by rw [S.hK]; exact hs)
    · exact .inl (by rw [S.hK]; exact hs)
theorem rgV_rel {L : Addr → Prop} {H : Hp} (n : Int) : RelDs G L H ((List.range n.toNat).map fun i => D.int (i : Nat)) (rgV 0 n) := by
  unfold rgV
  rw [show (n - 0).toNat = n.toNat by simp]
  generalize n.toNat = m
  have : ∀ l : List Nat, RelDs G L H (l.map fun i => D.int (i : Nat)) (l.map fun i => V.int (0 + (i : Nat))) := by
    intro l
    induction l with
    | nil => exact .nil
    | cons a l ih => exact .cons (by show RelD G L H (.int (a : Nat)) (.int (0 + (a : Nat))); rw [Int.zero_add]; exact .int _) ih
  exact this _
/-- list(range(n)) -/
theorem e_lrng (S : Sd G Wx C k X) (hcm : X.calm = true) (hg : Gl X "list") (hg2 : Gl X "range") (ha : PE X a (RE G ex Wx C ia)) (na : starEach [a] X.env = (false, eval a X.env) :: starEach [] X.env := by rfl)
    (na2 : starEach [.Call (.Name "range" p2) [a] [] p3] X.env = (false, eval (.Call (.Name "range" p2) [a] [] p3) X.env) :: starEach [] X.env := by rfl) :
    PE X (.Call (.Name "list" p) [.Call (.Name "range" p2) [a] [] p3] [] pos) (RE G ex Wx C (.lrng ia)) :=
  (pe_listRg hcm hg (S.bmg _ (by decide)) (prg_1 hg2 (S.bmg _ (by decide)) ha na) na2).of fun σ H Q ⟨ρ, η, St, R, h0⟩ => rd1 (f := fun w S1 => match w with
    | .d (.int n) => if -lineR ≤ n ∧ n < 16777216 then .ok (W.d (.lst ((List.range n.toNat).map fun i => .int (i : Nat)))) S1 else .stk
    | _ => .stk) R h0 fun w v ρ1 S1 H1 R1 e1 r1 h1 => by
      cases r1 with
      | d r1 =>
        cases r1 with
        | int n =>
          dsimp only at h1
          split at h1
          · next hn =>
            rw [lineR_eq] at hn
            refine ⟨n, rfl, ⟨by decide, by decide, hn.1, by omega, by omega⟩, fun q hq => h1.after (Ext.newObj (o := .lst (rgV 0 n)) hq) (R1.st.newObj hq) _ (.d (RelD.newLst R1.st hq (rgV_rel n)))⟩
          · exact h1.elim
        | _ => exact (show False from h1).elim
      | _ => exact (show False from h1).elim
/-- a list of things that may be cells -/
theorem e_lsw {es : List Expr} {ies : IEs} (h : PA X es (REs G none Wx C ies)) (hl : ies.len ≤ sizeLine := by decide) : PE X (.List es pos) (RE G none Wx C (.lsw ies)) :=
  (pe_lst h).of fun σ H Q ⟨ρ, η, S, R, h0⟩ => rd1n (f := fun ws S1 => .ok (W.loc S1.length) (S1 ++ [Cell.lsw ws])) R h0 fun ws vs ρ1 S1 H1 R1 e1 r1 l1 h1 => by
    refine ⟨by rw [l1]; exact hl, fun p hp => ?_⟩
    have e2 := Ext.newCell (c := .lsw ws) (o := .lst vs) R1.st hp
    exact h1.after e2 (R1.st.newCell hp (.lsw (upd_same ..) (r1.mono e2.kp e2.pre))) _ (.loc (by rw [← R1.st.len]; exact app_get _ _))
/-- f() -/
theorem e_call0 (S : Sd G Wx C k X) (hcm : X.calm = true) (hg : Gl X x) (h1 : C.P.fns[i]? = some fd) (hn : fd.name = x) (ht : fd.top = true) (hl : fd.np = 0) (hdb : (x == ("__debug__" : Str)) = false := by decide) :
    PE X (.Call (.Name x p) [] [] pos) (RE G none Wx C (.call i .nil)) := by
  subst hn
  obtain ⟨fdat, ps, hps, F, hb⟩ := (S.fok i fd h1).ex
  refine ⟨fun pins s σ H Q I h => ?_⟩
  refine wpAny_Call_Name_kw (ld_glob I hg (S.fmg i fd h1 ht) ?_ hdb)
  refine PySem.W.callWith_K0 I.kIn (S.fok i fd h1).kp (FnG.call (us := []) F S.gd ((S.room hcm).mono (Nat.le_succ _)) hb (passAt S.tk σ) I .nil ?_)
  obtain ⟨ρ, η, St, R, h0⟩ := h
  exact spF_of R.st .nil hl.symm h0
theorem e_dic0 : PE X (.Dict [] [] pos) (RE G ex Wx C .dic0) :=
  pe_dnewK.of fun σ H Q ⟨ρ, η, S, R, h0⟩ p hp => by
    have h1 : Sat G (fun c d H => Wx c d σ H) ρ S H (.ok (W.d (.dic [])) S) _ := h0
    exact h1.after (Ext.newObj (o := .dK []) hp) (R.st.newObj hp) _ (.d (.dic (upd_same ..) (R.st.fresh hp) .nil))
/-! ### sorted(set(t)), t a tuple of ints -/
theorem nodup_le : ∀ {a b : List Int}, a.Nodup → (∀ x ∈ a, x ∈ b) → a.length ≤ b.length
  | [], _, _, _ => by simp
  | x :: a, b, h, hs => by
    obtain ⟨h1, h2⟩ := List.nodup_cons.mp h
    have hx := hs x (by simp)
    have := nodup_le (a := a) (b := b.erase x) h2 fun y hy => (List.mem_erase_of_ne (fun e : y = x => by subst e; exact h1 hy)).mpr (hs y (by simp [hy]))
    rw [List.length_erase_of_mem hx] at this
    have : 0 < b.length := List.length_pos_of_mem hx
    simp
    omega
theorem setR_le {w : World} {h : Heap} {a : Addr} {ns : List Int} {n : Nat} {ms : List Int} (R : SetR w h a (fun j => decide (j ∈ ns)) n) (hm : ∀ j, j ∈ ns → j ∈ ms) : n ≤ ms.length := by
  obtain ⟨o, es, ep, t, h1, h2, h3, h4, h5, h6, h7, h8, h9, _⟩ := R
  have := nodup_le h5 fun x hx => hm x (by have := (h6 x).mpr hx; simpa using this)
  simp only [List.length_map, Array.length_toList] at this
  omega
def rSetT (K : PySem.W.Frag) (w : World) : List V → Hp → VK → Prop := fun xs H Q => ∃ (p : Addr) (ns : List Int), xs = [.ref p] ∧ (SqT K H p (ns.map V.int) ∨ SqL K H p (ns.map V.int)) ∧ ns.length < 4000 ∧
  ∀ (q : Addr) (n : Nat), (∀ ms : List Int, (∀ j, j ∈ ns → j ∈ ms) → n ≤ ms.length) → H q = none → Q (.ref q) (upd H q (SetO w q (fun j => decide (j ∈ ns)) n))
theorem cr_setT (hcm : X.calm = true) : CallR X (.type "set") (rSetT X.K X.w) := by
  rintro pins s σ H xs us Q I r ⟨p, ns, rfl, hq, hl, q⟩
  obtain ⟨u, rfl, rx⟩ := vals1 r
  cases rx
  rcases hq with hq | hq
  · obtain ⟨its, r', pl, hz⟩ := I.tuple hq
    refine call_set_tupI ns (I.ok.hd hcm) pl (by simpa using ints_of_vals r') (Nat.lt_of_le_of_lt (Nat.succ_le_of_lt hl) (by decide)) fun h' tk n hS hn kp => ?_
    exact ⟨.ref s.heap.objs.size, upd H s.heap.objs.size (SetO X.w s.heap.objs.size (fun j => decide (j ∈ ns)) n), I.laid (t' := tk) kp (Nat.le_refl _) (setO_new hS), rfl, q _ n (fun ms hm => setR_le hS hm) (I.hok.fresh (Nat.le_refl _))⟩
  · obtain ⟨its, r', pl, hz⟩ := I.list hq
    refine call_set_lstI ns (I.ok.hd hcm) pl.isList (by simpa using ints_of_vals r') (Nat.lt_of_le_of_lt (Nat.succ_le_of_lt hl) (by decide)) fun h' tk n hS hn kp => ?_
    exact ⟨.ref s.heap.objs.size, upd H s.heap.objs.size (SetO X.w s.heap.objs.size (fun j => decide (j ∈ ns)) n), I.laid (t' := tk) kp (Nat.le_refl _) (setO_new hS), rfl, q _ n (fun ms hm => setR_le hS hm) (I.hok.fresh (Nat.le_refl _))⟩
theorem mem_insU {i j : Int} : ∀ {l : List Int}, j ∈ insU i l ↔ j = i ∨ j ∈ l
  | [] => by simp [insU]
  | a :: r => by
    unfold insU
    split
    · simp
    · split
      · next h => subst h; simp
      · simp [mem_insU (l := r)]
        constructor
        · rintro (h | h | h) <;> simp [h]
        · rintro (h | h | h) <;> simp [h]
theorem insU_sorted {i : Int} : ∀ {l : List Int}, l.Pairwise (· < ·) → (insU i l).Pairwise (· < ·)
  | [], _ => by simp [insU]
  | a :: r, h => by
    rw [List.pairwise_cons] at h
    unfold insU
    split
    · next h1 => exact List.pairwise_cons.mpr ⟨fun b hb => by
        rcases List.mem_cons.mp hb with rfl | hb
        · exact h1
        · have := h.1 b hb; omega, List.pairwise_cons.mpr h⟩
    · split
      · exact List.pairwise_cons.mpr h
      · next h1 h2 => exact List.pairwise_cons.mpr ⟨fun b hb => by
          rcases mem_insU.mp hb with rfl | hb
          · omega
          · exact h.1 b hb, insU_sorted h.2⟩
theorem mem_sortU {j : Int} : ∀ {l : List Int}, j ∈ sortU l ↔ j ∈ l
  | [] => by simp [sortU]
  | a :: r => by
    show j ∈ insU a (sortU r) ↔ _
    rw [mem_insU, mem_sortU (l := r)]
    simp
theorem sortU_sorted : ∀ l : List Int, (sortU l).Pairwise (· < ·)
  | [] => by simp [sortU]
  | a :: r => insU_sorted (sortU_sorted r)
theorem sorted_ext : ∀ {a b : List Int}, a.Pairwise (· < ·) → b.Pairwise (· < ·) → (∀ j, j ∈ a ↔ j ∈ b) → a = b
  | [], [], _, _, _ => rfl
  | [], y :: b, _, _, h => by have := (h y).mpr (by simp); simp at this
  | x :: a, [], _, _, h => by have := (h x).mp (by simp); simp at this
  | x :: a, y :: b, ha, hb, h => by
    rw [List.pairwise_cons] at ha hb
    have h1 := (h x).mp (by simp)
    have h2 := (h y).mpr (by simp)
    have e : x = y := by
      rcases List.mem_cons.mp h1 with h1 | h1
      · exact h1
      · rcases List.mem_cons.mp h2 with h2 | h2
        · exact h2.symm
        · have := ha.1 y h2; have := hb.1 x h1; omega
    subst e
    rw [sorted_ext ha.2 hb.2 fun j => ?_]
    have hj := h j
    simp only [List.mem_cons] at hj
    constructor
    · intro q
      have := ha.1 j q
      rcases hj.mp (.inr q) with z | z
      · omega
      · exact z
    · intro q
      have := hb.1 j q
      rcases hj.mpr (.inr q) with z | z
      · omega
      · exact z
theorem RelDs.ofInts {L : Addr → Prop} {H : Hp} : ∀ {xs : List D} {vs : List V} {ns : List Int}, RelDs G L H xs vs → intsOf xs = some ns → vs = ns.map V.int
  | _, _, ns, .nil, e => by simp [intsOf] at e; subst e; rfl
  | _, _, ns, .cons r h, e => by
    cases r with
    | int i =>
      simp only [intsOf, Option.map_eq_some_iff] at e
      obtain ⟨m, e1, rfl⟩ := e
      rw [RelDs.ofInts h e1]
      rfl
    | _ => simp [intsOf] at e
theorem e_setsort (S : Sd G Wx C k X) (hcm : X.calm = true) (hg : Gl X "sorted") (hg2 : Gl X "set") (ha : PE X a (RE G ex Wx C ia)) (na : starEach [a] X.env = (false, eval a X.env) :: starEach [] X.env := by rfl)
    (na2 : starEach [.Call (.Name "set" p2) [a] [] p3] X.env = (false, eval (.Call (.Name "set" p2) [a] [] p3) X.env) :: starEach [] X.env := by rfl)
    (hpl : (backTo p3 (starEach [] X.env)).any (·.1) = false := by rfl) (hpl2 : (backTo pos (starEach [] X.env)).any (·.1) = false := by rfl) :
    PE X (.Call (.Name "sorted" p) [.Call (.Name "set" p2) [a] [] p3] [] pos) (RE G ex Wx C (.setop .sort ia)) :=
  (pe_callB (cr_sortedSet hcm) hg (S.bmg _ (by decide)) (by rfl) (pa_cons (pe_callTy (cr_setT hcm) hg2 (S.bmg _ (by decide)) (by rfl) (pa_cons ha pa_nil na) (by decide) (by decide) na hpl) pa_nil na2) (by decide) (by decide) na2 hpl2).of
  fun σ H Q ⟨ρ, η, St, R, h0⟩ => rd1 (f := fun x S1 => (ofO (setD .sort x S1) S1).bind fun z S2 => .ok (W.d z) S2) R h0 fun w v ρ1 S1 H1 R1 e1 r1 h1 => by
    obtain ⟨z, ez, h2⟩ := h1.ofO_bind
    have ez' : ((seqOf w S1).bind fun p => (intsOf p.2).bind fun ns => if ns.length < 4000 ∧ (sortU ns).length < 64 then some (D.lst ((sortU ns).map .int)) else none) = some z := ez
    rw [Option.bind_eq_some_iff] at ez'
    obtain ⟨⟨kk, xs⟩, e1', ez'⟩ := ez'
    rw [Option.bind_eq_some_iff] at ez'
    obtain ⟨ns, e2, e3⟩ := ez'
    split at e3
    · next hl =>
      cases e3
      obtain ⟨t, vs, rfl, hk, rs⟩ := r1.seqOf R1.st e1'
      have ev := rs.ofInts e2
      subst ev
      have ht : SqT X.K H1 t (ns.map V.int) ∨ SqL X.K H1 t (ns.map V.int) := by
        rw [S.hK]
        rcases hk with ⟨_, h⟩ | ⟨_, h⟩
        · exact .inl h
        · exact .inr h
      refine ⟨t, ns, rfl, ht, hl.1, fun q n hn hq => ⟨q, _, n, rfl, upd_same .., by have := hn (sortU ns) (fun j hj => mem_sortU.mpr hj); have := hl.2; omega, fun ms p hs hm hlen hp => ?_⟩⟩
      have em : ms = sortU ns := sorted_ext hs (sortU_sorted ns) fun j => by rw [hm j, mem_sortU]; simp
      subst em
      have e4 : Ext ρ1 S1 H1 ρ1 S1 (upd (upd H1 q (SetO X.w q (fun j => decide (j ∈ ns)) n)) p (.lst ((sortU ns).map V.int))) := (Ext.newObj hq).trans (Ext.newObj hp)
      have R4 := (R1.st.newObj (o := SetO X.w q (fun j => decide (j ∈ ns)) n) hq).newObj (o := .lst ((sortU ns).map V.int)) hp
      exact h2.after e4 R4 _ (.d (.lst (upd_same ..) (fun l => by
        have := (R1.st.newObj (o := SetO X.w q (fun j => decide (j ∈ ns)) n) hq).fresh hp
        exact this l) (RelDs.ints _)))
    · cases e3
end
end RI
/-! RI23: repr. -/
namespace RI
open PySem PySem.Spec PyProof.Rows L2
section
variable {G : Wd} {ex : Ex} {Wx : L2.WX} {C : Ctx} {k : Nat} {X : Cx} {pos p : Pos} {a : Expr} {ia : IE}
def rRep (K : PySem.W.Frag) : List V → Hp → VK → Prop := fun xs H Q => ∃ (v : V) (d : PyData), xs = [v] ∧ Dp K H v d ∧ d.showable = true ∧ d.hasDict = false ∧ d.depth ≤ 64 ∧ d.shown.length ≤ sizeLine ∧ Q (.str d.shown) H
theorem cr_rep (gd : X.A.guards = some []) (hu : X.A.units + 66 < cLine) : CallR X (.builtin "repr") (rRep X.K) := by
  rintro pins s σ H xs us Q I r ⟨v, d, rfl, hd, h1, h2, h3, h4, q⟩
  obtain ⟨u, rfl, rv⟩ := vals1 r
  have fin : ∀ t tk, EP X pins σ Q (.str d.shown t) { s with toks := tk } := fun t tk => ⟨.str d.shown, H, I.tok tk, ⟨t, rfl⟩, q⟩
  have big : ∀ ad, u = .ref ad → wpAny (model X.prog X.w) X.A (PySem.call (.builtin "repr") [u]) (EP X pins σ Q) X.xe s := fun ad e => by
    obtain ⟨as, rd⟩ := Dp.reads I d v u hd rv
    subst e
    exact repr_of_reads' rd h1 (fun z => by rw [h2] at z; cases z) gd (by omega) (fun _ _ e => e) (fun h' t tk hk => ⟨.str d.shown, H, I.kept (t' := tk) hk, ⟨t, rfl⟩, q⟩) h4
  cases hd with
  | non =>
    cases rv
    exact PySem.P.repr_of_none (fin _ _)
  | bl b =>
    cases rv
    exact PySem.P.repr_of_bool (by cases b <;> exact fin _ _)
  | int i =>
    obtain ⟨t, rfl⟩ := rv
    exact PySem.P.repr_of_int (by simpa [PyData.showable] using h1) (fin _ _)
  | str x =>
    obtain ⟨t, rfl⟩ := rv
    exact PySem.P.repr_of_str (fin _ _) (by simpa [PyData.shown] using h4)
  | _ =>
    cases rv
    exact big _ rfl
theorem e_rep (S : Sd G Wx C k X) (hg : Gl X "repr") (ha : PE X a (RE G ex Wx C ia)) (na : starEach [a] X.env = (false, eval a X.env) :: starEach [] X.env := by rfl) (hpl : (backTo pos (starEach [] X.env)).any (·.1) = false := by rfl) :
    PE X (.Call (.Name "repr" p) [a] [] pos) (RE G ex Wx C (.rep ia)) :=
  (pe_callB (cr_rep S.gd S.un) hg (S.bmg _ (by decide)) (by rfl) (pa_cons ha pa_nil na) (by decide) (by decide) na hpl).of fun σ H Q ⟨ρ, η, St, R, h0⟩ => rd1 (f := fun w S1 => (ofO (reprD w) S1).bind fun z S2 => .ok (W.d z) S2) R h0 fun w v ρ1 S1 H1 R1 e1 r1 h1 => by
    obtain ⟨z, ez, h2⟩ := h1.ofO_bind
    unfold reprD at ez
    split at ez
    · next x hx =>
      rw [Option.bind_eq_some_iff] at ez
      obtain ⟨d, e2, e3⟩ := ez
      split at e3
      · next hc =>
        cases e3
        refine ⟨v, d, rfl, by rw [S.hK]; exact r1.d_inv.dp e2, hc.1, hc.2.1, hc.2.2.1, hc.2.2.2, ?_⟩
        have e : V.str d.shown = V.str (Str' d.shown.cps.toList) := by
          congr 1
        rw [e]
        exact h2.now R1.st _ (.d (.str _))
      · cases e3
    · cases ez
end
end RI
/-! RI24: == where no own __eq__ can be asked (a handler's suite). -/
namespace RI
open PySem PySem.Spec PyProof.Rows L2
section
variable {G : Wd} {ex : Ex} {Wx : L2.WX} {C : Ctx} {k : Nat} {X : Cx} {pos p p2 : Pos} {x : Str} {i : Nat} {a b c : Expr} {ia ib ic : IE}
theorem e_cmpd {o : COp} {op : CmpOp} (S : Sd G Wx C k X) (ha : PE X a (RE G ex Wx C ia)) (hb : PE X b (RE G ex Wx C ib)) (hm : behindInMarks op b = false := by with_unfolding_all rfl) (ho : op = o.op := by rfl) :
    PE X (.Compare a [op] [b] pos) (RE G ex Wx C (.cmpd o ia ib)) := by
  subst ho
  exact (pe_cmpR (or_cmp (o := o) (G := G) (ex := ex) S.hK (by have := S.un; omega)) ha hb hm).of fun σ H Q ⟨ρ, η, St, R, h0⟩ => rd1 (f := fun x S1 => ((evalP C ib).1 η S1).bind fun y S2 => (ofO (cmpD o x y S2) S2).bind fun k S3 => .ok (W.d (.bl k)) S3) R h0 fun w v ρ1 S1 H1 R1 e1 r1 h1 =>
    rd1 R1 h1 fun w2 v2 ρ2 S2 H2 R2 e2 r2 h2 => by
      obtain ⟨z, ez, h4⟩ := h2.ofO_bind
      exact ⟨ρ2, S2, w, w2, z, R2.st, r1.mono e2.kp e2.pre, r2, ez, h4.now R2.st _ (.d (.bl z))⟩
theorem t_cmpd {o : COp} {op : CmpOp} (S : Sd G Wx C k X) (ha : PE X a (RE G ex Wx C ia)) (hb : PE X b (RE G ex Wx C ib)) (hm : behindInMarks op b = false := by with_unfolding_all rfl) (ho : op = o.op := by rfl) :
    PT X (.Compare a [op] [b] pos) (RT G ex Wx C (.cmpd o ia ib)) := by
  subst ho
  exact (pt_cmpR (or_cmp (o := o) (G := G) (ex := ex) S.hK (by have := S.un; omega)) ha hb hm).of fun σ H Q ⟨ρ, η, St, R, h0⟩ => by
    replace h0 : Sat G (fun c d H => Wx c d σ H) ρ St H ((((evalP C ia).1 η St).bind fun x S1 => ((evalP C ib).1 η S1).bind fun y S2 => (ofO (cmpD o x y S2) S2).bind fun k S3 => .ok (W.d (.bl k)) S3).bind fun x S1 => ofO (truthy x S1) S1) _ := h0
    rw [Res.bind_assoc] at h0
    refine rd1 R h0 fun w v ρ1 S1 H1 R1 e1 r1 h1 => ?_
    rw [Res.bind_assoc] at h1
    refine rd1 R1 h1 fun w2 v2 ρ2 S2 H2 R2 e2 r2 h2 => ?_
    rw [Res.bind_assoc] at h2
    obtain ⟨z, ez, h4⟩ := h2.ofO_bind
    exact ⟨ρ2, S2, w, w2, z, R2.st, r1.mono e2.kp e2.pre, r2, ez, z, rfl, h4.now R2.st⟩
end
end RI
/-! RI25: dicts whose keys are numbers or texts. -/
namespace RI
open PySem PySem.Spec PyProof.Rows L2
section
variable {G : Wd} {ex : Ex} {Wx : L2.WX} {C : Ctx} {k : Nat} {X : Cx} {pos p p2 p3 apos : Pos} {x : Str} {i : Nat} {a b c : Expr} {ia ib ic : IE} {ρ : Rho} {S : Store} {H : Hp} {L : Addr → Prop}
/-- what is there, or not -/
def GotD (G : Wd) (L : Addr → Prop) (H : Hp) : Option D → Option V → Prop
  | some y, o' => ∃ u, o' = some u ∧ RelD G L H y u
  | none, o' => o' = none
theorem keyV_of {d : D} {key : Key} {v : V} (h : keyD d = some key) (r : RelD G L H d v) : v = kV key := by
  cases d with
  | int i => cases r; simp only [keyD] at h; cases h; rfl
  | str s => cases r; simp only [keyD] at h; cases h; rfl
  | _ => simp [keyD] at h
theorem keq_iff {d e : D} {x y : Key} (h1 : keyD d = some x) (h2 : keyD e = some y) : keq d e = decide (x = y) := by
  cases d with
  | int i =>
    simp only [keyD] at h1; cases h1
    cases e with
    | int j =>
      simp only [keyD] at h2; cases h2
      simp only [keq]
      by_cases q : i = j
      · subst q; simp
      · have : ¬ (Sum.inl i : Key) = Sum.inl j := fun z => q (Sum.inl.inj z)
        rw [decide_eq_false q, decide_eq_false this]
    | str s => simp only [keyD] at h2; cases h2; simp [keq]
    | _ => simp [keyD] at h2
  | str s =>
    simp only [keyD] at h1; cases h1
    cases e with
    | int j => simp only [keyD] at h2; cases h2; simp [keq]
    | str t =>
      simp only [keyD] at h2; cases h2
      simp only [keq]
      by_cases q : s = t
      · subst q; simp
      · have : ¬ (Sum.inr (Str' s) : Key) = Sum.inr (Str' t) := fun z => q (by
          have := Sum.inr.inj z
          simpa using this)
        rw [decide_eq_false q, decide_eq_false this]
    | _ => simp [keyD] at h2
  | _ => simp [keyD] at h1
theorem RelKs.look {d : D} {key : Key} (hk : keyD d = some key) : ∀ {kvs : List (D × D)} {ks : List (Key × V)}, RelKs G L H kvs ks → GotD G L H (dlook kvs d) (valV ks key)
  | _, _, .nil => rfl
  | _, _, .cons (k := k') (key := key') (x := x) (v := v) (kvs := kvs) (ks := ks) e r rs => by
    have ih := RelKs.look hk rs
    have q := keq_iff e hk
    by_cases z : key' = key
    · have hq : keq k' d = true := by rw [q]; exact decide_eq_true z
      have e1 : dlook ((k', x) :: kvs) d = some x := by simp [dlook, hq]
      rw [e1]
      exact ⟨v, valV_pos z, r⟩
    · have hq : keq k' d = false := by rw [q]; exact decide_eq_false z
      have e1 : dlook ((k', x) :: kvs) d = dlook kvs d := by simp [dlook, hq]
      rw [e1, valV_neg (p := (key', v)) z]
      exact ih
theorem RelKs.any {d : D} {key : Key} (hk : keyD d = some key) : ∀ {kvs : List (D × D)} {ks : List (Key × V)}, RelKs G L H kvs ks → (kvs.any fun p => keq p.1 d) = ks.any fun p => decide (p.1 = key)
  | _, _, .nil => rfl
  | _, _, .cons e r rs => by simp only [List.any_cons, RelKs.any hk rs, keq_iff e hk]
theorem RelKs.snoc {d y : D} {key : Key} {v : V} (hk : keyD d = some key) (ry : RelD G L H y v) : ∀ {kvs : List (D × D)} {ks : List (Key × V)}, RelKs G L H kvs ks → RelKs G L H (kvs ++ [(d, y)]) (ks ++ [(key, v)])
  | _, _, .nil => .cons hk ry .nil
  | _, _, .cons e r rs => .cons e r (RelKs.snoc hk ry rs)
theorem RelKs.repl {d y : D} {key : Key} {v : V} (hk : keyD d = some key) (ry : RelD G L H y v) : ∀ {kvs : List (D × D)} {ks : List (Key × V)}, RelKs G L H kvs ks → RelKs G L H (kvs.map fun p => if keq p.1 d = true then (p.1, y) else p) (ks.map fun p => if p.1 = key then (p.1, v) else p)
  | _, _, .nil => .nil
  | _, _, .cons (k := k') (key := key') (x := x) (v := v') (kvs := kvs) (ks := ks) e r rs => by
    have ih := RelKs.repl hk ry rs
    have q := keq_iff e hk
    simp only [List.map_cons]
    by_cases z : key' = key
    · have hq : keq k' d = true := by rw [q]; exact decide_eq_true z
      rw [if_pos hq, if_pos z]
      exact .cons e ry ih
    · have hq : ¬ keq k' d = true := by rw [q, decide_eq_false z]; simp
      rw [if_neg hq, if_neg z]
      exact .cons e r ih
theorem RelKs.put {d y : D} {key : Key} {v : V} {kvs : List (D × D)} {ks : List (Key × V)} (hk : keyD d = some key) (ry : RelD G L H y v) (r : RelKs G L H kvs ks) : RelKs G L H (dput kvs d y) (putK ks key v) := by
  unfold dput putK
  rw [r.any hk]
  split
  · exact r.repl hk ry
  · exact r.snoc hk ry
theorem RelKs.length : ∀ {kvs : List (D × D)} {ks : List (Key × V)}, RelKs G L H kvs ks → kvs.length = ks.length
  | _, _, .nil => rfl
  | _, _, .cons _ _ rs => by simp [RelKs.length rs]
theorem RelKs.keys : ∀ {kvs : List (D × D)} {ks : List (Key × V)}, RelKs G L H kvs ks → RelDs G L H (kvs.map (·.1)) (ks.map fun p => kV p.1)
  | _, _, .nil => .nil
  | _, _, .cons (k := k') e _ rs => .cons (by
      cases k' with
      | int i => simp only [keyD] at e; cases e; exact .int i
      | str s => simp only [keyD] at e; cases e; exact .str s
      | _ => simp [keyD] at e) (RelKs.keys rs)
theorem dic_of {w : W} {v : V} {kvs : List (D × D)} (R : RelS G ρ S H) (r : RelW G ex (Live ρ S) ρ H w v) (h : dicOf w S = some kvs) : ∃ a ks, v = .ref a ∧ H a = some (.dK ks) ∧ RelKs G (Live ρ S) H kvs ks := by
  unfold dicOf at h
  split at h
  · next kvs' =>
    cases h
    cases r with
    | d r => cases r with
      | dic h1 _ h2 => exact ⟨_, _, rfl, h1, h2⟩
  · next l =>
    split at h
    · next kvs' hc =>
      cases h
      cases r with
      | loc hl => cases R.cell _ _ _ hc hl with
        | dct h1 h2 => exact ⟨_, _, rfl, h1, h2⟩
    · cases h
  · cases h
/-- what a look-up tells -/
theorem dget_of {w w2 : W} {v v2 : V} {o : Option D} (R : RelS G ρ S H) (r : RelW G ex (Live ρ S) ρ H w v) (r2 : RelW G ex (Live ρ S) ρ H w2 v2) (h : dgetD w w2 S = some o) :
    ∃ a o', v = .ref a ∧ DGet H a v2 o' ∧ GotD G (Live ρ S) H o o' := by
  have key : ∃ d key kvs, w2 = .d d ∧ keyD d = some key ∧ dicOf w S = some kvs ∧ dlook kvs d = o := by
    unfold dgetD at h
    cases w2 with
    | d d =>
      simp only at h
      by_cases hk : (keyD d).isSome = true
      · rw [if_pos hk, Option.map_eq_some_iff] at h
        obtain ⟨key, hk⟩ := Option.isSome_iff_exists.mp hk
        obtain ⟨kvs, h1, h2⟩ := h
        exact ⟨d, key, kvs, rfl, hk, h1, h2⟩
      · rw [if_neg hk] at h
        cases h
    | _ => cases h
  obtain ⟨d, key, kvs, rfl, hk, h1, rfl⟩ := key
  obtain ⟨a, ks, rfl, hH, rk⟩ := dic_of R r h1
  have ev := keyV_of hk r2.d_inv
  subst ev
  exact ⟨a, valV ks key, rfl, DGet.k hH, rk.look hk⟩
theorem e_dix (S : Sd G Wx C k X) (ha : PE X a (RE G ex Wx C ia)) (hb : PE X b (RE G ex Wx C ib)) (hs : NoSl b := by exact fun _ _ => rfl) : PE X (.Subscript a b pos) (RE G ex Wx C (.dix ia ib)) :=
  (pe_dget (by have := S.un; omega) ha hb hs).of fun σ H Q ⟨ρ, η, St, R, h0⟩ => rd1 (f := fun x S1 => ((evalP C ib).1 η S1).bind fun y S2 => match dgetD x y S2 with
    | some (some z) => .ok (W.d z) S2
    | _ => .stk) R h0 fun w v ρ1 S1 H1 R1 e1 r1 h1 => rd1 R1 h1 fun w2 v2 ρ2 S2 H2 R2 e2 r2 h2 => by
      split at h2
      · next z hz =>
        obtain ⟨a, o', rfl, g, u, rfl, ru⟩ := dget_of R2.st (r1.mono e2.kp e2.pre) r2 hz
        exact ⟨a, u, rfl, g, h2.now R2.st _ (.d ru)⟩
      · exact h2.elim
theorem e_din (S : Sd G Wx C k X) (hb : PE X b (RE G ex Wx C ib)) (ha : PE X a (RE G ex Wx C ia)) (hm : behindInMarks .In a = false := by with_unfolding_all rfl) : PE X (.Compare b [.In] [a] pos) (RE G ex Wx C (.din false ib ia)) :=
  (pe_cmp (pc_din (by have := S.un; omega) hb ha) hm).of fun σ H Q ⟨ρ, η, St, R, h0⟩ => rd1 (f := fun y S1 => ((evalP C ia).1 η S1).bind fun x S2 => match dgetD x y S2 with
    | some o => .ok (W.d (.bl (if false then !o.isSome else o.isSome))) S2
    | none => .stk) R h0 fun w v ρ1 S1 H1 R1 e1 r1 h1 => rd1 R1 h1 fun w2 v2 ρ2 S2 H2 R2 e2 r2 h2 => by
      split at h2
      · next o ho =>
        obtain ⟨a, o', rfl, g, q⟩ := dget_of R2.st r2 (r1.mono e2.kp e2.pre) ho
        refine ⟨a, o', rfl, g, ?_⟩
        have : o'.isSome = o.isSome := by
          cases o with
          | some y => obtain ⟨u, rfl, _⟩ := q; rfl
          | none => rw [q]; rfl
        rw [this]
        exact h2.now R2.st _ (.d (.bl _))
      · exact h2.elim
theorem e_dnin (S : Sd G Wx C k X) (hb : PE X b (RE G ex Wx C ib)) (ha : PE X a (RE G ex Wx C ia)) (hm : behindInMarks .NotIn a = false := by with_unfolding_all rfl) : PE X (.Compare b [.NotIn] [a] pos) (RE G ex Wx C (.din true ib ia)) :=
  (pe_cmp (pc_dnotin (by have := S.un; omega) hb ha) hm).of fun σ H Q ⟨ρ, η, St, R, h0⟩ => rd1 (f := fun y S1 => ((evalP C ia).1 η S1).bind fun x S2 => match dgetD x y S2 with
    | some o => .ok (W.d (.bl (if true then !o.isSome else o.isSome))) S2
    | none => .stk) R h0 fun w v ρ1 S1 H1 R1 e1 r1 h1 => rd1 R1 h1 fun w2 v2 ρ2 S2 H2 R2 e2 r2 h2 => by
      split at h2
      · next o ho =>
        obtain ⟨a, o', rfl, g, q⟩ := dget_of R2.st r2 (r1.mono e2.kp e2.pre) ho
        refine ⟨a, o', rfl, g, ?_⟩
        have : o'.isSome = o.isSome := by
          cases o with
          | some y => obtain ⟨u, rfl, _⟩ := q; rfl
          | none => rw [q]; rfl
        rw [this]
        exact h2.now R2.st _ (.d (.bl _))
      · exact h2.elim
theorem e_dget (S : Sd G Wx C k X) (ha : PE X a (RE G ex Wx C ia)) (hb : PE X b (RE G ex Wx C ib)) (hc : PE X c (RE G ex Wx C ic)) (hbase : attributeBase a "get" X.env (eval a X.env) = eval a X.env := by rfl) (hline : (apos.endLine == pos.line) = true := by rfl)
    (htr : backTo pos (starEach [b, c] X.env) = [(false, eval b X.env), (false, eval c X.env)] := by rfl) : PE X (.Call (.Attribute a "get" apos) [b, c] [] pos) (RE G ex Wx C (.dget ia ib ic)) :=
  (pe_dget2 (by have := S.un; omega) ha hb hc ⟨hbase, by rw [htr]; rfl, hline, htr⟩).of fun σ H Q ⟨ρ, η, St, R, h0⟩ => rd1 (f := fun x S1 => if (dicOf x S1).isSome = true then ((evalP C ib).1 η S1).bind fun y S2 => ((evalP C ic).1 η S2).bind fun z S3 => match dgetD x y S3, z with
    | some o, .d z => .ok (W.d (o.getD z)) S3
    | _, _ => .stk else .stk) R h0 fun w v ρ1 S1 H1 R1 e1 r1 h1 => by
      split at h1
      · next hd =>
        obtain ⟨kvs, hd⟩ := Option.isSome_iff_exists.mp hd
        obtain ⟨a, ks, rfl, hH, _⟩ := dic_of R1.st r1 hd
        refine ⟨a, rfl, .inl ⟨_, .inl hH⟩, rd1 R1 h1 fun w2 v2 ρ2 S2 H2 R2 e2 r2 h2 => rd1 R2 h2 fun w3 v3 ρ3 S3 H3 R3 e3 r3 h3 => ?_⟩
        split at h3
        · next o z ho =>
          obtain ⟨a', o', ea, g, q⟩ := dget_of R3.st ((r1.mono e2.kp e2.pre).mono e3.kp e3.pre) (r2.mono e3.kp e3.pre) ho
          cases ea
          refine ⟨o', g, ?_⟩
          cases o with
          | some y => obtain ⟨u, rfl, ru⟩ := q; exact h3.now R3.st _ (.d ru)
          | none => rw [q]; exact h3.now R3.st _ r3
        · exact h3.elim
      · exact h1.elim
theorem e_dkeys (S : Sd G Wx C k X) (hcm : X.calm = true) (hg : Gl X "list") (ha : PE X a (RE G ex Wx C ia)) (na : starEach [a] X.env = (false, eval a X.env) :: starEach [] X.env := by rfl) (hpl : (backTo pos (starEach [] X.env)).any (·.1) = false := by rfl) :
    PE X (.Call (.Name "list" p) [a] [] pos) (RE G ex Wx C (.dkeys ia)) :=
  (pe_callTy (call_listD hcm) hg (S.bmg _ (by decide)) (by rfl) (pa_cons ha pa_nil na) (by decide) (by decide) na hpl).of fun σ H Q ⟨ρ, η, St, R, h0⟩ => rd1 (f := fun x S1 => match dicOf x S1 with
    | some kvs => .ok (W.d (.lst (kvs.map (·.1)))) S1
    | none => .stk) R h0 fun w v ρ1 S1 H1 R1 e1 r1 h1 => by
      split at h1
      · next kvs hd =>
        obtain ⟨a, ks, rfl, hH, rk⟩ := dic_of R1.st r1 hd
        refine ⟨a, ks, rfl, .inl hH, fun p hp => ?_⟩
        exact h1.after (Ext.newObj (o := .lst (ks.map fun kv => kV kv.1)) hp) (R1.st.newObj hp) _ (.d (.lst (upd_same ..) (R1.st.fresh hp) (rk.keys.mono (Ext.newObj (ρ := ρ1) (S := S1) hp).kp)))
      · exact h1.elim
theorem e_dlen (S : Sd G Wx C k X) (hg : Gl X "len") (ha : PE X a (RE G ex Wx C ia)) (na : starEach [a] X.env = (false, eval a X.env) :: starEach [] X.env := by rfl) (hpl : (backTo pos (starEach [] X.env)).any (·.1) = false := by rfl) :
    PE X (.Call (.Name "len" p) [a] [] pos) (RE G ex Wx C (.dlen ia)) :=
  (pe_callB call_lenD hg (S.bmg _ (by decide)) (by rfl) (pa_cons ha pa_nil na) (by decide) (by decide) na hpl).of fun σ H Q ⟨ρ, η, St, R, h0⟩ => rd1 (f := fun x S1 => match dicOf x S1 with
    | some kvs => .ok (W.d (.int kvs.length)) S1
    | none => .stk) R h0 fun w v ρ1 S1 H1 R1 e1 r1 h1 => by
      split at h1
      · next kvs hd =>
        obtain ⟨a, ks, rfl, hH, rk⟩ := dic_of R1.st r1 hd
        refine ⟨a, ks, rfl, hH, ?_⟩
        rw [← rk.length]
        exact h1.now R1.st _ (.d (.int _))
      · exact h1.elim
theorem e_dnew : PE X (.Dict [] [] pos) (RE G ex Wx C .dnew) :=
  pe_dnewK.of fun σ H Q ⟨ρ, η, S, R, h0⟩ p hp => by
    have h1 : Sat G (fun c d H => Wx c d σ H) ρ S H (.ok (W.loc S.length) (S ++ [.dct []])) _ := h0
    have hc : RelC G (Live (ρ.app [p]) (S ++ [.dct []])) (ρ.app [p]) (upd H p (.dK [])) (.dct []) p := .dct (upd_same ..) .nil
    refine h1 _ _ (Ext.newCell (c := .dct []) (o := .dK []) R.st hp) (R.st.newCell hp hc) _ (.loc ?_)
    show (ρ.l ++ [p])[S.length]? = some p
    rw [← R.st.len, List.getElem?_concat_length]
end
end RI
/-! RI26: d[k] = v; methods of own classes. -/
namespace RI
open PySem PySem.Spec PyProof.Rows L2
section
variable {G : Wd} {ex : Ex} {Wx : L2.WX} {C : Ctx} {k : Nat} {X : Cx} {pos p p2 p3 apos : Pos} {x : Str} {i : Nat} {a b c o e : Expr} {ia ib ic io ii : IE} {es : List Expr} {ies : IEs} {ρ : Rho} {S : Store} {H : Hp}
def rSetD (G : Wd) : TSet := fun o i v H Q => ∃ ρ S wo wi w, RelS G ρ S H ∧ RelW G none (Live ρ S) ρ H wo o ∧ RelW G none (Live ρ S) ρ H wi i ∧ RelW G none (Live ρ S) ρ H w v ∧
  Sat G noX ρ S H (noExc (setDic wo wi w S)) fun _ ρ' S' H' => Q H'
theorem set_d (hu : X.A.units + 1 < cLine) : PSet X (rSetD G) := by
  intro pins s σ H o i v ov iv u Q I ro ri rv ⟨ρ, St, wo, wi, w, R, r1, r2, r3, h⟩
  cases r1 with
  | loc hl =>
    rename_i l a
    cases r2 with
    | d rk =>
      rename_i d
      unfold setDic at h
      dsimp only at h
      by_cases hk : (keyD d).isSome = true
      · rw [if_pos hk] at h
        obtain ⟨key, hk⟩ := Option.isSome_iff_exists.mp hk
        cases hc : St[l]? with
        | none => rw [hc] at h; exact h.elim
        | some c =>
          rw [hc] at h
          cases c with
          | dct kvs =>
            dsimp only at h
            by_cases hlen : kvs.length < line
            · rw [if_pos hlen] at h
              cases w with
              | d y =>
                dsimp only at h
                cases r3 with
                | d ry =>
                  cases R.cell _ _ _ hc hl with
                  | dct hH rks =>
                    rename_i ks
                    have ev := keyV_of hk rk
                    subst ev
                    obtain rfl : ov = Value.ref a := ro
                    have e2 := Ext.setCell (c' := .dct (dput kvs d y)) (o := .dK (putK ks key v)) R hc rfl hl
                    refine d_setItem hu I (DPut.k hH (by rw [← rks.length]; exact hlen)) ri rv fun s' I' => ⟨_, I', ?_⟩
                    exact h ρ _ e2 (R.setCell hc rfl hl (.dct (upd_same ..) ((rks.put hk ry).mono e2.kp)))
              | _ => exact h.elim
            · rw [if_neg hlen] at h; exact h.elim
          | _ => exact h.elim
      · rw [if_neg hk] at h; exact h.elim
    | _ => exact h.elim
  | _ => exact h.elim
theorem g_dsub (S : Sd G Wx C k X) (ho : PE X o (RE G none Wx C io)) (hi : PE X e (RE G none Wx C ii))
    (ha : ∀ v, assign (.Subscript o e pos) X.env v = (do
      let ov ← holding [v] (eval o X.env)
      let iv ← holding [v, ov] (eval e X.env)
      standAt pos
      holding [v, ov, iv] (setItem ov iv v)
      release [v, ov, iv] []) := by intro _; rfl) : PG X (.Subscript o e pos) (RdG G (IT.names (.dsub io ii)) (setT C (.dsub io ii))) :=
  (pg_sub ho hi (set_d (G := G) (by have := S.un; omega)) ha).of fun v σ H Q ⟨ρ, η, St, w, R, r, h⟩ => by
    replace h : Sat G noX ρ St H (noExc (((evalP C io).1 η St).bind fun x S1 => ((evalP C ii).1 η S1).bind fun k S2 => (setDic x k w S2).bind fun _ S3 => .ok η S3)) _ := h
    rw [noExc_bind] at h
    refine ⟨ρ, η, St, R, (Sat.nx (W1 := noX) h.bindN).mono fun wo ρ1 S1 H1 _ _ ⟨e1, R1, h1⟩ vo ro => ?_⟩
    rw [noExc_bind] at h1
    refine ⟨ρ1, η, S1, R.mono e1 R1, (Sat.nx (W1 := noX) h1.bindN).mono fun wi ρ2 S2 H2 _ _ ⟨e2, R2, h2⟩ vi ri => ?_⟩
    rw [noExc_bind] at h2
    have R12 := (R.mono e1 R1).mono e2 R2
    exact ⟨ρ2, S2, wo, wi, w, R2, ro.mono e2.kp e2.pre, ri, (r.mono e1.kp e1.pre).mono e2.kp e2.pre, h2.bindN.mono fun _ ρ3 S3 H3 _ _ ⟨e3, R3, h3⟩ => h3.now R3 _ (R12.mono e3 R3) (SameBut.refl _ _)⟩
/-! ### methods -/
theorem methOf_inv {P : Prog} {m n f : Nat} {o : W} (h : methOf P m o n S = some f) : ∃ c d fd, clsOf o S = some c ∧ P.cls[c]? = some d ∧ lookN m d.meths = some f ∧ P.fns[f]? = some fd ∧ ordC P c = true ∧ noFld m o S = true ∧ n + 1 = fd.np := by
  unfold methOf at h
  cases e1 : clsOf o S with
  | none => rw [e1] at h; cases h
  | some c =>
    rw [e1] at h
    dsimp only at h
    cases e2 : P.cls[c]? with
    | none => rw [e2] at h; cases h
    | some d =>
      rw [e2] at h
      dsimp only at h
      cases e3 : lookN m d.meths with
      | none => rw [e3] at h; cases h
      | some g =>
        rw [e3] at h
        dsimp only at h
        cases e4 : P.fns[g]? with
        | none => rw [e4] at h; cases h
        | some fd =>
          rw [e4] at h
          dsimp only at h
          by_cases hc : ordC P c = true ∧ noFld m o S = true ∧ n + 1 = fd.np
          · rw [if_pos hc] at h
            cases h
            exact ⟨c, d, fd, rfl, e2, e3, e4, hc.1, hc.2.1, hc.2.2⟩
          · rw [if_neg hc] at h; cases h
theorem lookN_mem {α : Type} {m : Nat} {y : α} : ∀ {xs : List (Nat × α)}, lookN m xs = some y → (m, y) ∈ xs
  | [], h => by cases h
  | (j, z) :: r, h => by
    unfold lookN at h
    by_cases q : m = j
    · subst q
      rw [if_pos rfl] at h
      cases h
      simp
    · rw [if_neg q] at h
      exact List.mem_cons_of_mem _ (lookN_mem h)
theorem RelFw.noLook {L : Addr → Prop} {m : Nat} (hI : ∀ f g, G.nm f = G.nm g → f = g) : ∀ {fs : List (Nat × W)} {vs : List (Str × V)}, RelFw G L ρ H fs vs → lookN m fs = none → vs.lookup (G.nm m) = none
  | _, _, .nil, _ => rfl
  | _, _, .cons (f := g) h hs, e => by
    unfold lookN at e
    by_cases q : m = g
    · rw [if_pos q] at e; cases e
    · rw [if_neg q] at e
      rw [List.lookup_cons, show (G.nm m == G.nm g) = false from by
        rw [beq_eq_false_iff_ne]
        exact fun z => q (hI _ _ z)]
      exact RelFw.noLook hI hs e
theorem RelFs.noLook {L : Addr → Prop} {m : Nat} (hI : ∀ f g, G.nm f = G.nm g → f = g) : ∀ {fs : List (Nat × D)} {vs : List (Str × V)}, RelFs G L H fs vs → lookN m fs = none → vs.lookup (G.nm m) = none
  | _, _, .nil, _ => rfl
  | _, _, .cons (f := g) h hs, e => by
    unfold lookN at e
    by_cases q : m = g
    · rw [if_pos q] at e; cases e
    · rw [if_neg q] at e
      rw [List.lookup_cons, show (G.nm m == G.nm g) = false from by
        rw [beq_eq_false_iff_ne]
        exact fun z => q (hI _ _ z)]
      exact RelFs.noLook hI hs e
/-- the receiver -/
theorem recv_of {w : W} {v : V} {c m : Nat} (hI : ∀ f g, G.nm f = G.nm g → f = g) (R : RelS G ρ S H) (r : RelW G none (Live ρ S) ρ H w v) (e : clsOf w S = some c) (hn : noFld m w S = true) : ∃ a dx vs, v = .ref a ∧ H a = some (.ins (G.ca c) dx vs) ∧ vs.lookup (G.nm m) = none := by
  cases r with
  | d r =>
    cases r with
    | obj h nl hs =>
      cases e
      refine ⟨_, _, _, rfl, h, hs.noLook hI ?_⟩
      unfold noFld at hn
      simpa using hn
    | _ => cases e
  | loc hl =>
    rename_i l a
    unfold clsOf at e
    dsimp only at e
    unfold noFld at hn
    dsimp only at hn
    cases hc : S[l]? with
    | none => rw [hc] at e; cases e
    | some cc =>
      rw [hc] at e hn
      cases cc with
      | ins c' fs =>
        cases e
        cases R.cell _ _ _ hc hl with
        | ins h hs => exact ⟨_, _, _, rfl, h, hs.noLook hI (by simpa using hn)⟩
      | _ => cases e
  | scr h => cases e
  | exn h => cases h
theorem e_meth {m : Nat} {n : Str} {ns : List Str} {pl : Sem Bool} (S : Sd G Wx C k X) (hcm : X.calm = true) (hnm : G.nm = nmOf ns) (hn : nmOf ns m = n) (ho : PE X o (RE G none Wx C io)) (ha : PA X (e :: es) (REs G none Wx C ies))
    (hst : starEach (e :: es) X.env = (false, eval e X.env) :: starEach es X.env := by rfl) (hpl : (backTo pos (starEach es X.env)).any (·.1) = false := by rfl)
    (ht : eval (.Call (.Attribute o n apos) (e :: es) [] pos) X.env = (do
      let ov ← eval o X.env
      standAt apos.atName
      let (f, first) ← holding [ov] (getMethod ov n pl)
      callWith pos f first (backTo pos (starEach (e :: es) X.env)) (backToKw pos (keywordEach [] X.env))) := by rfl) :
    PE X (.Call (.Attribute o n apos) (e :: es) [] pos) (RE G none Wx C (.meth io m ies)) := by
  have hn : G.nm m = n := by rw [hnm]; exact hn
  subst hn
  refine ⟨fun pins s σ H Q I ⟨ρ, η, St, R, h0⟩ => ?_⟩
  refine PySem.W.methodCall_KW (pl := pl) (thn (ho.run pins s σ H (fun x H1 => ∃ a c d f fd dx vs, x = .ref a ∧ C.P.cls[c]? = some d ∧ (m, f) ∈ d.meths ∧ C.P.fns[f]? = some fd ∧ ordC C.P c = true ∧ H1 a = some (.ins (G.ca c) dx vs) ∧ vs.lookup (G.nm m) = none ∧
    REs G none Wx C ies σ H1 fun us H2 => spF G (C.call f) fd.np (.ref a :: us) H2 Q (WE Wx σ)) I (rd1 (f := fun o S1 => match methOf C.P m o ies.len S1 with
      | some f => (evalEs C ies η S1).bind fun ws S2 => C.call f (o :: ws) S2
      | none => .stk) R h0 fun w v ρ1 S1 H1 R1 e1 r1 h1 => ?_)) fun u s1 ⟨x, H1, I1, rx, a, c, d, f, fd, dx, vs, ex, h1, h2, h3, h4, h5, h6, h7⟩ => ?_) ht
  · cases hm : methOf C.P m w ies.len S1 with
    | none => rw [hm] at h1; exact h1.elim
    | some f =>
      rw [hm] at h1
      obtain ⟨c, d, fd, q1, q2, q3, q4, q5, q6, q7⟩ := methOf_inv hm
      obtain ⟨a, dx, vs, rfl, hH, hl⟩ := recv_of S.nmI R1.st r1 q1 q6
      refine ⟨a, c, d, f, fd, dx, vs, rfl, q2, lookN_mem q3, q4, q5, hH, hl, rd1n (f := fun ws S2 => C.call f (w :: ws) S2) R1 h1 fun ws us ρ2 S2 H2 R2 e2 r2 l2 h2 => ?_⟩
      exact spF_of R2.st (.cons (r1.mono e2.kp e2.pre) r2) (by rw [List.length_cons, r2.length, l2, q7]) h2
  · subst ex
    obtain rfl : u = Value.ref a := rx
    obtain ⟨fdat, ps, hps, F, hb⟩ := (S.fok f fd h3).ex
    have hM := S.mth c d m f h1 h4 h2
    refine getmeth_ok I1 h5 (S.clf c h4).cls hM h6 ?_
    refine PySem.W.callWith_K (first := [.ref a]) (h₀ := X.base) I.ok.mod.kin hM.kp (thn (ha.run pos pins s1 σ H1 _ I1 h7) fun us s2 ⟨vs2, H2, I2, r, q2⟩ => ⟨I2.kIn, ?_⟩) hst hpl
    exact FnG.call (us := .ref a :: us) (vs := .ref a :: vs2) F S.gd ((S.room hcm).mono (Nat.le_succ _)) hb (passAt S.tk σ) I2 (.cons rfl r) q2
theorem e_meth0 {m : Nat} {n : Str} {ns : List Str} {pl : Sem Bool} (S : Sd G Wx C k X) (hcm : X.calm = true) (hnm : G.nm = nmOf ns) (hn : nmOf ns m = n) (ho : PE X o (RE G none Wx C io))
    (ht : eval (.Call (.Attribute o n apos) [] [] pos) X.env = (do
      let ov ← eval o X.env
      standAt apos.atName
      let (f, first) ← holding [ov] (getMethod ov n pl)
      callWith pos f first (backTo pos (starEach [] X.env)) (backToKw pos (keywordEach [] X.env))) := by rfl) :
    PE X (.Call (.Attribute o n apos) [] [] pos) (RE G none Wx C (.meth io m .nil)) := by
  have hn : G.nm m = n := by rw [hnm]; exact hn
  subst hn
  refine ⟨fun pins s σ H Q I ⟨ρ, η, St, R, h0⟩ => ?_⟩
  refine PySem.W.methodCall_KW (pl := pl) (thn (ho.run pins s σ H (fun x H1 => ∃ a c d f fd dx vs, x = .ref a ∧ C.P.cls[c]? = some d ∧ (m, f) ∈ d.meths ∧ C.P.fns[f]? = some fd ∧ ordC C.P c = true ∧ H1 a = some (.ins (G.ca c) dx vs) ∧ vs.lookup (G.nm m) = none ∧
    spF G (C.call f) fd.np [.ref a] H1 Q (WE Wx σ)) I (rd1 (f := fun o S1 => match methOf C.P m o IEs.nil.len S1 with
      | some f => (evalEs C .nil η S1).bind fun ws S2 => C.call f (o :: ws) S2
      | none => .stk) R h0 fun w v ρ1 S1 H1 R1 e1 r1 h1 => ?_)) fun u s1 ⟨x, H1, I1, rx, a, c, d, f, fd, dx, vs, ex, h1, h2, h3, h4, h5, h6, h7⟩ => ?_) ht
  · cases hm : methOf C.P m w IEs.nil.len S1 with
    | none => rw [hm] at h1; exact h1.elim
    | some f =>
      rw [hm] at h1
      obtain ⟨c, d, fd, q1, q2, q3, q4, q5, q6, q7⟩ := methOf_inv hm
      obtain ⟨a, dx, vs, rfl, hH, hl⟩ := recv_of S.nmI R1.st r1 q1 q6
      exact ⟨a, c, d, f, fd, dx, vs, rfl, q2, lookN_mem q3, q4, q5, hH, hl, spF_of R1.st (.cons r1 .nil) q7 h1⟩
  · subst ex
    obtain rfl : u = Value.ref a := rx
    obtain ⟨fdat, ps, hps, F, hb⟩ := (S.fok f fd h3).ex
    have hM := S.mth c d m f h1 h4 h2
    refine getmeth_ok I1 h5 (S.clf c h4).cls hM h6 ?_
    exact PySem.W.callWith_K0 (first := [.ref a]) I1.kIn hM.kp (FnG.call (us := [.ref a]) (vs := [.ref a]) F S.gd ((S.room hcm).mono (Nat.le_succ _)) hb (passAt S.tk σ) I1 (.cons rfl .nil) h7)
end
end RI
/-! RI27: written dicts; sorted lists of ints; reversed sequences; ranges downwards. -/
namespace RI
open PySem PySem.Spec PyProof.Rows L2
section
variable {G : Wd} {ex : Ex} {Wx : L2.WX} {C : Ctx} {k : Nat} {X : Cx} {pos p p2 p3 apos : Pos} {x : Str} {i : Nat} {a b c o e : Expr} {ia ib ic io ii : IE} {es : List Expr} {ies : IEs} {ρ : Rho} {S : Store} {H : Hp} {T : List (List Nat × D)}
theorem e_kget (S : Sd G Wx C k X) (hg : Gl X x) (h1 : C.P.tabs[i]? = some T) (h2 : C.P.tnm[i]? = some x) (hb : PE X b (RE G ex Wx C ib)) (hc : PE X c (RE G ex Wx C ic)) (hdb : (x == ("__debug__" : Str)) = false := by decide)
    (hbase : attributeBase (.Name x p) "get" X.env (eval (.Name x p) X.env) = eval (.Name x p) X.env := by rfl) (hline : (apos.endLine == pos.line) = true := by rfl)
    (htr : backTo pos (starEach [b, c] X.env) = [(false, eval b X.env), (false, eval c X.env)] := by rfl) : PE X (.Call (.Attribute (.Name x p) "get" apos) [b, c] [] pos) (RE G ex Wx C (.kget i ib ic)) := by
  obtain ⟨a, en, n, hm, hl, hk, hd, hv⟩ := S.tab i T x h1 h2
  refine ⟨fun pins s σ H Q I ⟨ρ, η, St, R, h0⟩ => ?_⟩
  refine wpAny_Call_method hbase (by rw [htr]; rfl) hline PySem.F.plainAttrs_dict PySem.F.slot_dict_get PySem.F.type_dict_get (thn ((pe_glob hg hm (v := .ref a) rfl hdb).run pins s σ H (fun x H1 => x = .ref a ∧ H1 = H) I ⟨rfl, rfl⟩) fun u s1 ⟨x, H1, I1, rx, ex, eH⟩ => ?_)
  subst ex
  subst eH
  obtain rfl : u = Value.ref a := rx
  have hM := PySem.W.mapOf_K (prog := X.prog) (w := X.w) I1.kIn hl hk
  refine ⟨hM.typeIs, fun b q => ?_, ?_⟩
  · cases q
    exact ⟨_, I1.kIn _ _ hl, rfl⟩
  · rw [htr]
    refine Calls.callWith_builtin rfl (Calls.evalArgs_plain (Calls.spliced_cons (thn (hb.run pins s1 σ _ (fun y H2 => ∃ s', y = .str (Str' s') ∧ RE G ex Wx C ic σ H2 fun z H3 => ∀ r : V, (match tabD T s' with
      | some d => ∀ L H, RelD G L H d r
      | none => r = z) → Q r H3) I1 (rd1 (f := fun x S1 => match x with
        | .d (.str s) => ((evalP C ic).1 η S1).bind fun z S2 => match z, C.P.tabs[i]? with
          | .d z, some T => .ok (W.d ((tabD T s).getD z)) S2
          | _, _ => .stk
        | _ => .stk) R h0 fun w v ρ1 S1 H1 R1 e1 r1 h3 => ?_)) fun iv s2 ⟨y, H2, I2, ry, s', ey, q2⟩ =>
      Calls.spliced_cons (thn (hc.run pins s2 σ H2 _ I2 q2) fun fv s3 ⟨z, H3, I3, rz, q3⟩ => Calls.spliced_nil ?_))))
    · cases w with
      | d dx =>
        cases dx with
        | str s0 =>
          cases r1 with
          | d r1 =>
            cases r1
            refine ⟨s0, rfl, rd1 R1 h3 fun w2 v2 ρ2 S2 H2 R2 e2 r2 h4 => ?_⟩
            intro r hr
            cases w2 with
            | d dz =>
              rw [h1] at h4
              dsimp only at h4
              cases ht : tabD T s0 with
              | some d =>
                rw [ht] at hr h4
                exact h4.now R2.st _ (.d (hr _ _))
              | none =>
                rw [ht] at hr h4
                subst hr
                exact h4.now R2.st _ r2
            | _ => exact h4.elim
        | _ => exact h3.elim
      | _ => exact h3.elim
    · have hM3 := PySem.W.mapOf_K (prog := X.prog) (w := X.w) I3.kIn hl hk
      subst ey
      obtain ⟨t, rfl⟩ := ry
      refine call_meetsIn PySem.F.slot_dict_get hM3.typeIs PySem.F.entry_dict_get (PySem.F.args_dict_get_3 _ _ _) (meets_dict_get_default (strKind X.prog X.w) a (strKind_is _ _ _ _) hd fv) ⟨_, hM3, ?_⟩
      have hs := hv s'
      cases ht : tabD T s' with
      | some d =>
        rw [ht] at hs q3
        obtain ⟨v, u, e1, e2, e3⟩ := hs
        rw [PySem.W.find_K hl e1]
        exact ⟨v, H3, I3.tok _, e2, q3 v e3⟩
      | none =>
        rw [ht] at hs q3
        rw [PySem.W.find_K hl hs]
        exact ⟨z, H3, I3.tok _, rz, q3 z rfl⟩
/-! ### sorted -/
theorem insI_perm (i : Int) : ∀ ns : List Int, (insI i ns).Perm (i :: ns)
  | [] => .refl _
  | j :: r => by
    unfold insI
    split
    · exact .refl _
    · exact ((insI_perm i r).cons j).trans (.swap ..)
theorem sortI_perm : ∀ ns : List Int, (sortI ns).Perm ns
  | [] => .refl _
  | n :: r => (insI_perm n (sortI r)).trans ((sortI_perm r).cons n)
theorem insI_rise (i : Int) : ∀ {ns : List Int}, ns.Pairwise (· ≤ ·) → (insI i ns).Pairwise (· ≤ ·)
  | [], _ => by simp [insI]
  | j :: r, h => by
    unfold insI
    rw [List.pairwise_cons] at h
    split
    · next hij =>
      rw [List.pairwise_cons]
      refine ⟨fun x hx => ?_, List.pairwise_cons.mpr h⟩
      rcases List.mem_cons.mp hx with rfl | hx
      · exact hij
      · exact Int.le_trans hij (h.1 x hx)
    · next hij =>
      rw [List.pairwise_cons]
      refine ⟨fun x hx => ?_, insI_rise i h.2⟩
      rcases List.mem_cons.mp ((insI_perm i r).mem_iff.mp hx) with rfl | hx
      · omega
      · exact h.1 x hx
theorem sortI_rise : ∀ ns : List Int, (sortI ns).Pairwise (· ≤ ·)
  | [] => .nil
  | n :: r => insI_rise n (sortI_rise r)
theorem sortI_only {ms ns : List Int} (h : ms.Perm ns) (h1 : ms.Pairwise (· ≤ ·)) : ms = sortI ns :=
  List.Perm.eq_of_pairwise (le := (· ≤ ·)) (fun _ _ _ _ a b => Int.le_antisymm a b) h1 (sortI_rise ns) (h.trans (sortI_perm ns).symm)
theorem e_srt (S : Sd G Wx C k X) (hg : Gl X "sorted") (ha : PE X a (RE G ex Wx C ia)) (na : starEach [a] X.env = (false, eval a X.env) :: starEach [] X.env := by rfl) (hpl : (backTo pos (starEach [] X.env)).any (·.1) = false := by rfl) :
    PE X (.Call (.Name "sorted" p) [a] [] pos) (RE G ex Wx C (.srt ia)) :=
  (pe_callB cr_sorted hg (S.bmg _ (by decide)) (by rfl) (pa_cons ha pa_nil na) (by decide) (by decide) na hpl).of fun σ H Q ⟨ρ, η, St, R, h0⟩ => rd1 (f := fun x S1 => match (lstOf x S1).bind intsOf with
    | some ns => if ns.length < 64 then .ok (W.d (.lst ((sortI ns).map .int))) S1 else .stk
    | none => .stk) R h0 fun w v ρ1 S1 H1 R1 e1 r1 h1 => by
      cases hm : (lstOf w S1).bind intsOf with
      | none => rw [hm] at h1; exact h1.elim
      | some ns =>
        rw [hm] at h1
        dsimp only at h1
        by_cases hl : ns.length < 64
        · rw [if_pos hl] at h1
          rw [Option.bind_eq_some_iff] at hm
          obtain ⟨xs, e2, e3⟩ := hm
          obtain ⟨a, vs, rfl, hH, rs⟩ := r1.lstOf R1.st e2
          have ev := rs.ofInts e3
          subst ev
          refine ⟨a, ns, rfl, SqL.of hH, hl, fun ms p hp1 hp2 hp => ?_⟩
          have := sortI_only hp1 hp2
          subst this
          exact h1.after (Ext.newObj (o := .lst ((sortI ns).map V.int)) hp) (R1.st.newObj hp) _ (.d (.lst (upd_same ..) (R1.st.fresh hp) (RelDs.ints _)))
        · rw [if_neg hl] at h1; exact h1.elim
end
end RI
/-! RI28: the written dicts of a module, as the head tells them. -/
namespace RI
open PySem PySem.Spec PyProof.Rows L2
section
variable {K : PySem.W.Frag} {w : World} {a : Addr} {h : Heap} {mg : Str → Option Value} {P : Prog} {ds : List He.DefD} {ns : List Str}
theorem dicW_keys {ks : List Str} (h : He.dicW K a = some (He.keysIn w.params ks)) : ∃ es n, K.lookup a = some ⟨.type "dict", none, .dict es n, #[]⟩ ∧ PySem.W.KeysLit w.params es.toList ∧ (a == sysModules) = false ∧ es.toList.map He.keyOf = He.keysIn w.params ks := by
  obtain ⟨es, n, q, k, low⟩ := He.dicW_ok h
  refine ⟨es, n, q, k, low, ?_⟩
  unfold He.dicW at h
  rw [q] at h
  simpa [low] using h
theorem keyOf_in {P : Params} {ks : List Str} {es : List DictEntry} (hk : es.map He.keyOf = He.keysIn P ks) : ∀ e ∈ es, ∃ x t, e.key = .str x t ∧ x ∈ ks := by
  intro e he
  have h1 : He.keyOf e ∈ He.keysIn P ks := by rw [← hk]; exact List.mem_map_of_mem he
  simp only [He.keysIn, List.mem_map] at h1
  obtain ⟨x, hx, e1⟩ := h1
  unfold He.keyOf at e1
  split at e1
  · next y t q =>
    have := Option.some.inj e1
    injection this with e2 e3
    subst e2
    exact ⟨_, t, q, hx⟩
  · cases e1
theorem nsIn_none {ks : List Str} {es : Array DictEntry} {n : Nat} {s : Str} {Pm : Params} (hl : K.lookup a = some ⟨.type "dict", none, .dict es n, #[]⟩) (hk : es.toList.map He.keyOf = He.keysIn Pm ks) (hs : s ∉ ks) : PySem.W.nsIn K a s = some none := by
  have hall := keyOf_in hk
  unfold PySem.W.nsIn
  rw [hl]
  dsimp only
  have h1 : es.toList.find? (fun d : DictEntry => d.key.isStr s) = none := by
    rw [List.find?_eq_none]
    intro e he
    obtain ⟨x, t, q, hx⟩ := hall e he
    rw [q]
    intro z
    have : x = s := by
      simpa [Value.isStr] using z
    exact hs (this ▸ hx)
  have h2 : es.toList.any (fun d : DictEntry => d.refKey) = false := by
    rw [List.any_eq_false]
    intro e he
    obtain ⟨x, t, q, hx⟩ := hall e he
    simp [DictEntry.refKey, q]
  rw [h1]
  dsimp only
  rw [h2]
  rfl
def tabB (K : PySem.W.Frag) (T : List (List Nat × D)) (a : Addr) : Bool := T.all fun p => match PySem.W.nsIn K a (Str' p.1) with
  | some (some u) => cB K p.2 u
  | _ => false
def tabsB (P : Prog) (K : PySem.W.Frag) : Bool := (P.tabs.zip P.tnm).all fun q => (match PySem.W.nsIn K mainGlobals q.2 with
  | some (some (.ref a)) => decide (a = He.ga K q.2)
  | _ => false) && tabB K q.1 (He.ga K q.2)
def tabsOf (P : Prog) : List He.Tab := (P.tabs.zip P.tnm).map fun q => (fun K => He.ga K q.2, q.1.map fun p => Str' p.1)
theorem hts_of (X : K.In h) (G : h.Ns mainGlobals mg) (c : He.SaysT [] ds (tabsOf P) w K) (hb : tabsB P K = true) : ∀ (i : Nat) T x, P.tabs[i]? = some T → P.tnm[i]? = some x → TabF (wdOf P ds ns K) K w mg T x := by
  intro i T x h1 h2
  have hz : (P.tabs.zip P.tnm)[i]? = some (T, x) := List.getElem?_zip_eq_some.mpr ⟨h1, h2⟩
  have hm := List.mem_of_getElem? hz
  have hb1 := List.all_eq_true.mp hb _ hm
  rw [Bool.and_eq_true] at hb1
  obtain ⟨b1, b2⟩ := hb1
  dsimp only at b1 b2
  have hmg : mg x = some (.ref (He.ga K x)) := by
    cases e : PySem.W.nsIn K mainGlobals x with
    | none => rw [e] at b1; cases b1
    | some o =>
      rw [e] at b1
      cases o with
      | none => cases b1
      | some u =>
        cases u with
        | ref a =>
          have := of_decide_eq_true b1
          subst this
          exact ns_at X G e
        | _ => cases b1
  have ht : (tabsOf P)[i]? = some (fun K => He.ga K x, T.map fun p => Str' p.1) := by
    unfold tabsOf
    rw [List.getElem?_map, hz]
    rfl
  have hd : He.dicW K (He.ga K x) = some (He.keysIn w.params (T.map fun p => Str' p.1)) := by
    have e : (tabsOf P).map (fun t => He.dicW K (t.1 K)) = (tabsOf P).map fun t => some (He.keysIn w.params t.2) := congrArg (fun z : He.AlT => z.2) c
    have e2 : ((tabsOf P).map fun t => He.dicW K (t.1 K))[i]? = ((tabsOf P).map fun t => some (He.keysIn w.params t.2))[i]? := by rw [e]
    rw [List.getElem?_map, List.getElem?_map, ht] at e2
    exact Option.some.inj e2
  obtain ⟨es, n, q1, q2, q3, q4⟩ := dicW_keys hd
  refine ⟨He.ga K x, es, n, hmg, q1, q2, q3, fun s => ?_⟩
  unfold tabD
  cases hf : T.find? (fun p => decide (p.1 = s)) with
  | some p =>
    simp only [Option.map_some]
    have hp := List.mem_of_find?_eq_some hf
    have hs : p.1 = s := by simpa using List.find?_some hf
    have := List.all_eq_true.mp b2 p hp
    rw [hs] at this
    cases e : PySem.W.nsIn K (He.ga K x) (Str' s) with
    | none => rw [e] at this; cases this
    | some o =>
      rw [e] at this
      cases o with
      | none => cases this
      | some u =>
        obtain ⟨v, r, hr⟩ := cB_ok (G := wdOf P ds ns K) this
        exact ⟨v, u, rfl, r, hr⟩
  | none =>
    simp only [Option.map_none]
    refine nsIn_none q1 q4 fun hmem => ?_
    obtain ⟨p, hp, e⟩ := List.mem_map.mp hmem
    have := List.find?_eq_none.mp hf p hp
    simp at this
    exact this (str_inj e)
end
end RI
/-! RI29: four names at once: the tuple is made and taken apart; its items may be written later. -/
namespace RI
open PySem PySem.Spec PyProof.Rows L2
section
variable {G : Wd} {ex : Ex} {E : XK} {C : Ctx} {k : Nat} {X : Cx} {pos p p2 apos tpos pos' : Pos} {x : Str} {i : Nat} {a b c e o tg : Expr} {ia ib ie io ii : IE}
theorem fn_or {x : Str} (h : (X.fn x || isLocB X.env.scope x) = true) : X.fn x = true ∨ X.env.scope.names.lookup x = some .local := by
  rcases Bool.or_eq_true_iff.mp h with h | h
  · exact .inl h
  · exact .inr (isLoc_of h)
theorem setNs4 {i j l q : Nat} {ws : List W} {η η1 : Env} (h : setNs [i, j, l, q] ws η = some η1) : ∃ a b c d, ws = [a, b, c, d] ∧ i < η.length ∧ j < η.length ∧ l < η.length ∧ q < η.length ∧ η1 = (((η.set i (some a)).set j (some b)).set l (some c)).set q (some d) := by
  rcases ws with _ | ⟨a, _ | ⟨b, _ | ⟨c, _ | ⟨d, _ | ⟨e, r⟩⟩⟩⟩⟩ <;> simp [setNs] at h
  obtain ⟨h1, h2, h3, h4, rfl⟩ := h
  exact ⟨a, b, c, d, rfl, h1, h2, h3, h4, rfl⟩
theorem s_par4 {j l q : Nat} {d : Expr} {y z u : Str} {px py pz pu pt : Pos} {kt k2 pt2} {es : IEs} (S : Sd G (wE E) C k X) (hcm : X.calm = true) (hi : X.N[i]? = some x) (hj : X.N[j]? = some y) (hl : X.N[l]? = some z) (hq : X.N[q]? = some u) (ha : PA X [a, b, c, d] (REs G none (wE E) C es))
    (hx : locB X.env.scope x = true) (hy : locB X.env.scope y = true) (hz : locB X.env.scope z = true) (hu : locB X.env.scope u = true)
    (fx : (X.fn x || isLocB X.env.scope x) = true) (fy : (X.fn y || isLocB X.env.scope y) = true) (fz : (X.fn z || isLocB X.env.scope z) = true) (fu : (X.fn u || isLocB X.env.scope u) = true)
    (h4 : es.len = 4 := by rfl)
    (hs : swapsWithSole [.Tuple [.Name x px, .Name y py, .Name z pz, .Name u pu] kt pt] (.Tuple [a, b, c, d] k2 pt2) pos.line X.env = pure false := by rfl)
    (hw : swappedStores [.Tuple [.Name x px, .Name y py, .Name z pz, .Name u pu] kt pt] (.Tuple [a, b, c, d] k2 pt2) X.env = pure none := by rfl) :
    PS X (.Assign [.Tuple [.Name x px, .Name y py, .Name z pz, .Name u pu] kt pt] (.Tuple [a, b, c, d] k2 pt2) pos) (RS G E C (.par [i, j, l, q] es)) :=
  (ps_asg (pe_tup ha) (pg_tup hcm (pgs_cons (pg_name S.nd hi (loc_of hx) (fn_or fx)) (pgs_cons (pg_name S.nd hj (loc_of hy) (fn_or fy)) (pgs_cons (pg_name S.nd hl (loc_of hz) (fn_or fz)) (pgs_cons (pg_name S.nd hq (loc_of hu) (fn_or fu)) pgs_nil))))) hs hw).of fun D σ H ⟨ρ, η, St, R, h⟩ =>
    rd1n (Wx := wE E) (f := fun ws S1 => (ofO (setNs [i, j, l, q] ws η) S1).bind fun η1 S2 => Res.ok (Flow.nx η1) S2) R h fun ws vs ρ1 S1 H1 R1 e1 r1 l1 h1 => by
    obtain ⟨η1, e, h2⟩ := h1.ofO_bind
    obtain ⟨wa, wb, wc, wd, rfl, g1, g2, g3, g4, rfl⟩ := setNs4 e
    cases r1 with
    | @cons _ va _ _ ra r1 =>
      cases r1 with
      | @cons _ vb _ _ rb r1 =>
        cases r1 with
        | @cons _ vc _ _ rc r1 =>
          cases r1 with
          | @cons _ vd _ _ rd r1 =>
            cases r1
            refine ⟨by simp; decide, fun p hp => ?_⟩
            have e2 := Ext.newObj (ρ := ρ1) (S := S1) (o := .tup [va, vb, vc, vd]) hp
            have R2 := R1.mono e2 (R1.st.newObj hp)
            refine ⟨p, _, rfl, .inl (.inl (upd_same ..)), rfl, _, _, rfl, _, _, rfl, _, _, rfl, _, _, rfl, rfl, ?_⟩
            exact (h2.from e2).now R2.st _ ((((R2.set (ra.mono e2.kp e2.pre) g1).set (rb.mono e2.kp e2.pre) (by simpa using g2)).set (rc.mono e2.kp e2.pre) (by simpa using g3)).set (rd.mono e2.kp e2.pre) (by simpa using g4))
end
end RI
/-! RI30: xs[::-1] of lists and tuples. -/
namespace HT
open PySem PySem.Spec PyProof.Rows
section
variable {prog : Program} {w : World} {A : Around} {E : Value → Shared → Prop} {s : Shared}
theorem fm_congr {α β : Type} {f g : α → Option β} : ∀ {l : List α}, (∀ x ∈ l, f x = g x) → l.filterMap f = l.filterMap g
  | [], _ => rfl
  | a :: l, h => by
    rw [List.filterMap_cons, List.filterMap_cons, h a (by simp), fm_congr fun x hx => h x (by simp [hx])]
theorem adjust_rev (n : Nat) : Builtin.Slice.sliceAdjust none none (-1) (n : Int) = ((n : Int) - 1, -1) := by
  have h1 : ((-1 : Int) < 0) := by omega
  unfold Builtin.Slice.sliceAdjust
  simp only [h1, if_true]
theorem places_rev (n : Nat) : Builtin.Slice.slicePlaces ((n : Int) - 1) (-1) (-1) = n := by
  unfold Builtin.Slice.slicePlaces
  have h1 : ¬ (-1 : Int) > 0 := by omega
  simp only [h1, if_false]
  have e : (-(-1) : Int) = 1 := by decide
  rw [e, Int.ediv_one]
  split <;> omega
theorem pick_rev (xs : Array Value) : ((List.range xs.size).filterMap fun (k : Nat) => xs[(((xs.size : Int) - 1) + (k : Int) * -1).toNat]?).toArray = xs.toList.reverse.toArray := by
  congr 1
  apply List.ext_getElem?
  intro i
  have e : (List.range xs.size).filterMap (fun (k : Nat) => xs[(((xs.size : Int) - 1) + (k : Int) * -1).toNat]?) = xs.toList.reverse := by
    have h1 : (List.range xs.size).filterMap (fun (k : Nat) => xs[(((xs.size : Int) - 1) + (k : Int) * -1).toNat]?) = ((List.range xs.size).map fun k => xs.size - 1 - k).filterMap (xs[·]?) := by
      rw [List.filterMap_map]
      refine fm_congr fun k hk => ?_
      have hk := List.mem_range.mp hk
      show xs[_]? = xs[xs.size - 1 - k]?
      congr 1
      omega
    rw [h1, PySem.W.krv_range, List.filterMap_reverse, PySem.W.krv_all]
  rw [e]
theorem applied_rev {sl : Addr} {vs : Value} {n : Nat} {Q : Int × Int × Nat → Shared → Prop} (hs : s.heap.IsSliceOf sl .none .none vs) (pk : IsPart vs (some (-1)))
    (h : Q ((n : Int) - 1, -1, n) s) : wpAny (model prog w) A (Builtin.Slice.sliceApplied (.ref sl) (pure (n : Int))) Q E s := by
  obtain ⟨os, hos, hcs, hds⟩ := id hs
  unfold Builtin.Slice.sliceApplied Builtin.Slice.sliceFields
  refine wpAny_bind (wpAny_bind (wpAny_field hos hds (x := .none) rfl (wpAny_bind (wpAny_field hos hds (x := .none) rfl (wpAny_bind (wpAny_field hos hds (x := vs) rfl (wpAny_pure ?_)))))))
  refine wpAny_bind (slicePart_ pk ?_)
  show wpAny _ _ (if ((-1 : Int) == 0) = true then _ else _) _ _ s
  rw [if_neg (by decide)]
  refine wpAny_bind (slicePart_none (wpAny_bind (slicePart_none (wpAny_bind (wpAny_pure ?_)))))
  show wpAny _ _ (match Builtin.Slice.sliceAdjust none none (-1) (n : Int) with | (lo, hi) => pure (lo, (-1 : Int), Builtin.Slice.slicePlaces lo hi (-1))) _ _ s
  rw [adjust_rev]
  show wpAny _ _ (pure (((n : Int) - 1), (-1 : Int), Builtin.Slice.slicePlaces ((n : Int) - 1) (-1) (-1))) _ _ s
  rw [places_rev]
  exact wpAny_pure h
theorem getItem_tuple_rev {t sl : Addr} {items : Array Value} {vs : Value} {Q : Value → Shared → Prop} (ht : IsTup s.heap t items) (hs : s.heap.IsSliceOf sl .none .none vs) (pk : IsPart vs (some (-1)))
    (h : Q (.ref s.heap.objs.size) { s with heap := s.heap.push { cls := .type "tuple", data := .seq items.toList.reverse.toArray } })
    (hsz : items.size ≤ sizeLine) : wpAny (model prog w) A (getItem (.ref t) (.ref sl)) Q E s := by
  have htake : sizeOk (.seq items.toList.reverse.toArray) := by
    show items.toList.reverse.toArray.size ≤ sizeLine
    rw [List.size_toArray, List.length_reverse, Array.length_toList]
    exact hsz
  obtain ⟨os, hos, hcs, hds⟩ := id hs
  have hTs : s.TypeIs (.ref sl) "slice" := ⟨os, hos, hcs⟩
  unfold getItem
  try with_reducible refine wpAny_holding ?_
  first | refine wpAny_bind (wpAny_pure ?_) | skip
  refine wpAny_bind (wpAny_sequenceKey ht.typeIs (by decide) ?_)
  refine wpAny_bind (wpAny_callSpecial?_slot (name := Str.ofString "__getitem__") ht.typeIs PyProof.Rows.slot_tuple_getitem
    (wpAny_call_entry PyProof.Rows.slot_tuple_getitem ht.typeIs entry_tuple_getitem ?_ (args_tuple_getitem _ _)))
  show wpAny _ _ (Builtin.Tuple.tupleItemsOf (.ref t) >>= _) _ _ s
  refine wpAny_bind (tupleItemsOf_ ht ?_)
  refine wpAny_bind (wpAny_typeOf hTs ?_)
  rw [if_pos (by decide)]
  refine wpAny_bind (applied_rev hs pk ?_)
  have hno : ¬ ((((items.size : Int) - 1) == 0 && (-1 : Int) == 1 && items.size == items.size) = true) := by
    rw [show ((-1 : Int) == 1) = false from rfl, Bool.and_false, Bool.false_and]
    exact Bool.false_ne_true
  show wpAny _ _ (if (((items.size : Int) - 1) == 0 && (-1 : Int) == 1 && items.size == items.size) = true then _ else _) _ _ s
  rw [if_neg hno, pick_rev]
  first
    | exact wpAny_bind (m := Builtin.Tuple.tupleExact _) (wpAny_newObj_type (wpAny_pure ⟨_, rfl, wpAny_pure h⟩) htake)
    | exact wpAny_bind (m := Builtin.Tuple.tupleExact _) (wpAny_newObj_type (wpAny_bind (wpAny_pure (wpAny_pure ⟨_, rfl, wpAny_pure h⟩))) htake)
    | exact wpAny_bind (wpAny_bind (m := Builtin.Tuple.tupleExact _) (wpAny_newObj_type (wpAny_pure (wpAny_pure ⟨_, rfl, wpAny_pure h⟩)) htake))
    | exact wpAny_bind (wpAny_bind (m := Builtin.Tuple.tupleExact _) (wpAny_newObj_type (wpAny_pure ⟨_, rfl, wpAny_pure h⟩) htake))
end
end HT

namespace RI
open PySem PySem.Spec PyProof.Rows L2
def tRevT (K : PySem.W.Frag) (te : TE) : TE := fun σ H Q => te σ H fun x H1 => ∃ a xs, x = .ref a ∧ ((SqL K H1 a xs ∧ ∀ p, H1 p = none → Q (.ref p) (upd H1 p (.lst xs.reverse))) ∨ (SqT K H1 a xs ∧ ∀ p, H1 p = none → Q (.ref p) (upd H1 p (.tup xs.reverse))))
section
variable {X : Cx}
theorem pe_revT {e : Expr} {te : TE} {k : Nat} {p1 p2 p3 pos : Pos} (he : PE X e te) : PE X (.Subscript e (.Slice none none (some (.UnaryOp .USub (.Constant (.int 1) k p1) p2)) p3) pos) (tRevT X.K te) := by
  refine ⟨fun pins s σ H Q I h => ?_⟩
  refine Subscript_ (thn (he.run pins s σ H _ I h) fun v s1 ⟨x, H1, I1, r1, q1⟩ => ?_)
  obtain ⟨a, xs, ex, q1⟩ := q1
  subst ex
  cases r1
  have hst : PO X (some (.UnaryOp .USub (.Constant (.int 1) k p1) p2)) (tPart (tUn (rU fun i => .int (-i)) (tC (.int 1)))) := po_some (pe_un un_neg pe_int)
  refine wpAny_Slice (thn (po_none.run pins s1 σ H1 (fun o H2 => o = none ∧ H2 = H1) I1 ⟨rfl, rfl⟩) fun vl s2 ⟨l, H2, I2, pl, el, e2⟩ => ?_)
  subst el e2
  refine thn (po_none.run pins s2 σ H2 (fun o H3 => o = none ∧ H3 = H2) I2 ⟨rfl, rfl⟩) fun vu s3 ⟨u, H3, I3, pu, eu, e3⟩ => ?_
  subst eu e3
  refine thn (hst.run pins s3 σ H3 (fun o H4 => o = some (-1) ∧ H4 = H3) I3 ⟨1, rfl, -1, rfl, rfl, rfl⟩) fun vs s4 ⟨o, H4, I4, ps, eo, e4⟩ => ?_
  subst eo e4
  have I5 : Inv X pins σ H4 { s4 with heap := s4.heap.push { cls := .type "slice", data := .fields #[vl, vu, vs] } } := I4.kept (t' := s4.toks) fun b ob q => Heap.get?_push_of_some _ q
  rcases q1 with ⟨hx, q⟩ | ⟨hx, q⟩
  · obtain ⟨its, r, ht, hz⟩ := I5.list hx
    have hlen := r.length
    show wpAny (model X.prog X.w) X.A (subscriptTail e (.Slice none none (some (.UnaryOp .USub (.Constant (.int 1) k p1) p2)) p3) (.ref a) (.ref s4.heap.objs.size)) (EP X pins σ Q) X.xe { s4 with heap := s4.heap.push { cls := .type "slice", data := .fields #[vl, vu, vs] } }
    refine tail_any (ops := [.ref a, .ref s4.heap.objs.size]) ht.isList.typeIs (PySem.slot_list_getitem.lookup) ?_ (by with_unfolding_all rfl)
    refine wpAny_getItem_list_slice ht.isList (Heap.IsSliceOf.new _ vl vu vs) pl pu ps (by decide) ?_ (by rw [List.size_toArray]; omega)
    rw [PySem.W.krv_pick]
    refine ⟨.ref _, _, I5.laid (t' := s4.toks) (o := .lst xs.reverse) (fun b ob q => Heap.get?_push_of_some _ q) (Nat.le_refl _) ?_, rfl, q _ (I5.hok.fresh (Nat.le_refl _))⟩
    exact ⟨by rw [List.length_reverse]; exact hz, _, 0, r.reverse, Heap.get?_push_size _ rfl⟩
  · obtain ⟨its, r, ht, hz⟩ := I5.tuple hx
    have hlen := r.length
    cases pl
    cases pu
    show wpAny (model X.prog X.w) X.A (subscriptTail e (.Slice none none (some (.UnaryOp .USub (.Constant (.int 1) k p1) p2)) p3) (.ref a) (.ref s4.heap.objs.size)) (EP X pins σ Q) X.xe { s4 with heap := s4.heap.push { cls := .type "slice", data := .fields #[.none, .none, vs] } }
    refine tail_any (ops := [.ref a, .ref s4.heap.objs.size]) ht.typeIs (PyProof.Rows.slot_tuple_getitem.lookup) ?_ (by with_unfolding_all rfl)
    refine HT.getItem_tuple_rev ht (Heap.IsSliceOf.new _ .none .none vs) ps ?_ (by rw [List.size_toArray]; omega)
    refine ⟨.ref _, _, I5.laid (t' := s4.toks) (o := .tup xs.reverse) (fun b ob q => Heap.get?_push_of_some _ q) (Nat.le_refl _) ?_, rfl, q _ (I5.hok.fresh (Nat.le_refl _))⟩
    exact ⟨by rw [List.length_reverse]; exact hz, _, r.reverse, IsTup.new _ _⟩
end
section
variable {G : Wd} {ex : Ex} {Wx : L2.WX} {C : RI.Ctx} {k : Nat} {X : Cx} {pos p1 p2 p3 : Pos} {a : Expr} {ia : IE}
theorem RelDs.append1 {L : Addr → Prop} {H : Hp} {xs : List D} {vs : List V} {x : D} {v : V} (h : RelDs G L H xs vs) (h1 : RelD G L H x v) : RelDs G L H (xs ++ [x]) (vs ++ [v]) := h.append (.cons h1 .nil)
theorem RelDs.reverse {L : Addr → Prop} {H : Hp} : ∀ {xs : List D} {vs : List V}, RelDs G L H xs vs → RelDs G L H xs.reverse vs.reverse
  | _, _, .nil => .nil
  | _, _, .cons a h => by
    rw [List.reverse_cons, List.reverse_cons]
    exact (RelDs.reverse h).append1 a
theorem e_rev {kk : Nat} (S : Sd G Wx C k X) (ha : PE X a (RE G ex Wx C ia)) : PE X (.Subscript a (.Slice none none (some (.UnaryOp .USub (.Constant (.int 1) kk p1) p2)) p3) pos) (RE G ex Wx C (.rev ia)) :=
  (pe_revT ha).of fun σ H Q ⟨ρ, η, St, R, h0⟩ => rd1 (f := fun x S1 => match x with
    | .d (.tup xs) => if xs.length ≤ 1000 then .ok (W.d (.tup xs.reverse)) S1 else .stk
    | .d (.lst xs) => if xs.length ≤ 1000 then .ok (W.d (.lst xs.reverse)) S1 else .stk
    | _ => .stk) R h0 fun w v ρ1 S1 H1 R1 e1 r1 h1 => by
      split at h1
      · next xs =>
        by_cases hc : xs.length ≤ 1000
        · rw [if_pos hc] at h1
          obtain ⟨a, vs, rfl, hk, hs⟩ := r1.seqOf R1.st (k := .tup) (xs := xs) rfl
          rcases hk with ⟨_, hk⟩ | ⟨z, _⟩
          · refine ⟨a, vs, rfl, .inr ⟨by rw [S.hK]; exact hk, fun p hp => ?_⟩⟩
            exact (h1.from (Ext.newObj (o := .tup vs.reverse) hp)).now (R1.st.newObj hp) _ (.d (RelD.newTup R1.st hp hs.reverse))
          · cases z
        · rw [if_neg hc] at h1; exact h1.elim
      · next xs =>
        by_cases hc : xs.length ≤ 1000
        · rw [if_pos hc] at h1
          obtain ⟨a, vs, rfl, hk, hs⟩ := r1.seqOf R1.st (k := .lst) (xs := xs) rfl
          rcases hk with ⟨z, _⟩ | ⟨_, hk⟩
          · cases z
          · refine ⟨a, vs, rfl, .inl ⟨by rw [S.hK]; exact hk, fun p hp => ?_⟩⟩
            exact (h1.from (Ext.newObj (o := .lst vs.reverse) hp)).now (R1.st.newObj hp) _ (.d (RelD.newLst R1.st hp hs.reverse))
        · rw [if_neg hc] at h1; exact h1.elim
      · exact h1.elim
end
end RI
/-! RI31: dict(xs), xs a list of pairs. -/
namespace RI
open PySem PySem.Spec PyProof.Rows L2
section
variable {G : Wd} {ex : Ex} {Wx : L2.WX} {C : RI.Ctx} {k : Nat} {X : Cx} {pos p : Pos} {a : Expr} {ia : IE}
theorem dofP_rel {L : Addr → Prop} {H : Hp} : ∀ {xs : List D} {vs : List V} {acc kvs : List (D × D)} {ks : List (Key × V)}, RelDs G L H xs vs → dofP acc xs = some kvs → RelKs G L H acc ks →
    ∃ (ps : List Addr) (kv : List (Key × V)), vs = ps.map V.ref ∧ Paired (fun p kv => SqT G.K H p [kV kv.1, kv.2]) ps kv ∧ RelKs G L H kvs (mergeK ks kv)
  | _, _, acc, kvs, ks, .nil, e, r => by
    simp only [dofP, Option.some.injEq] at e
    subst e
    exact ⟨[], [], rfl, .nil, r⟩
  | _, _, acc, kvs, ks, .cons (x := x) (v := v) hx hs, e, r => by
    cases hx with
    | tup hq hd =>
      rename_i aa vs' xs'
      rcases xs' with _ | ⟨d, _ | ⟨y, _ | ⟨z, t⟩⟩⟩
      · simp [dofP] at e
      · simp [dofP] at e
      · cases hd with
        | cons r1 hd =>
          cases hd with
          | cons r2 hd =>
            cases hd
            simp only [dofP] at e
            by_cases hk : (keyD d).isSome = true
            · rw [if_pos hk] at e
              obtain ⟨key, hkey⟩ := Option.isSome_iff_exists.mp hk
              have hv := keyV_of hkey r1
              subst hv
              obtain ⟨ps, kv, rfl, hp, hr⟩ := dofP_rel hs e (RelKs.put hkey r2 r)
              exact ⟨aa :: ps, (key, _) :: kv, rfl, .cons hq hp, hr⟩
            · rw [if_neg hk] at e
              cases e
      · simp [dofP] at e
    | _ => simp [dofP] at e
theorem e_dpr (S : Sd G Wx C k X) (hcm : X.calm = true) (hg : Gl X "dict") (ha : PE X a (RE G ex Wx C ia)) (na : starEach [a] X.env = (false, eval a X.env) :: starEach [] X.env := by rfl) (hpl : (backTo pos (starEach [] X.env)).any (·.1) = false := by rfl) :
    PE X (.Call (.Name "dict" p) [a] [] pos) (RE G ex Wx C (.dpr ia)) :=
  (pe_callTy (call_dictP hcm) hg (S.bmg _ (by decide)) (by rfl) (pa_cons ha pa_nil na) (by decide) (by decide) na hpl).of fun σ H Q ⟨ρ, η, St, R, h0⟩ => rd1 (f := fun x S1 => match (lstOf x S1).bind (dofP []) with
    | some kvs => .ok (W.d (.dic kvs)) S1
    | none => .stk) R h0 fun w v ρ1 S1 H1 R1 e1 r1 h1 => by
      split at h1
      · next kvs hd =>
        rw [Option.bind_eq_some_iff] at hd
        obtain ⟨xs, e2, e3⟩ := hd
        obtain ⟨a, vs, rfl, hH, rs⟩ := r1.lstOf R1.st e2
        obtain ⟨ps, kv, rfl, hp, hr⟩ := dofP_rel rs e3 .nil
        refine ⟨a, ps, kv, rfl, SqL.of hH, by rw [S.hK]; exact hp, fun p hp => ?_⟩
        exact h1.after (Ext.newObj (o := .dK (mergeK [] kv)) hp) (R1.st.newObj hp) _ (.d (.dic (upd_same ..) (R1.st.fresh hp) (hr.mono (Ext.newObj (ρ := ρ1) (S := S1) hp).kp)))
      · exact h1.elim
end
end RI
/-! RI32: lists made by + and * that are written later on; range downwards. -/
namespace RI
open PySem PySem.Spec PyProof.Rows L2
section
variable {G : Wd} {ex : Ex} {Wx : L2.WX} {C : Ctx} {k : Nat} {X : Cx} {pos p p2 p3 apos : Pos} {x : Str} {i : Nat} {a b c e o tg : Expr} {ia ib ic io ie : IE}
theorem fix_rngC {ρ : Rho} {S : Store} {H : Hp} {i : Int} {n : Nat} : FixIt G ρ S H (Itc i (-1) n) ((List.range n).map fun (j : Nat) => D.int (i + j * -1)) := by
  refine ⟨fun j ρ' S' H' e R hj => by show j < n; simpa using hj, fun j d v ρ' S' H' H'' e R hd y => ?_, fun ρ' S' H' e R => by show n ≤ _; simp⟩
  obtain ⟨rfl, rfl⟩ := y
  rw [List.getElem?_map] at hd
  cases hr : (List.range n)[j]? with
  | none => rw [hr] at hd; cases hd
  | some m =>
    have hm : m = j := by
      obtain ⟨h1, h2⟩ := List.getElem?_eq_some_iff.mp hr
      simpa using h2.symm
    rw [hr] at hd
    cases hd
    subst hm
    exact ⟨Ext.refl, R, .int _⟩
/-- range(i, n, -1) -/
theorem i_rngd {kk : Nat} (S : Sd G Wx C k X) (hg : Gl X "range") (ha : PE X a (RE G none Wx C ia)) (hb : PE X b (RE G none Wx C ib))
    (hs : starEach [a, b, .UnaryOp .USub (.Constant (.int 1) kk p2) p3] X.env = (false, eval a X.env) :: starEach [b, .UnaryOp .USub (.Constant (.int 1) kk p2) p3] X.env := by rfl)
    (hs2 : starEach [b, .UnaryOp .USub (.Constant (.int 1) kk p2) p3] X.env = (false, eval b X.env) :: starEach [.UnaryOp .USub (.Constant (.int 1) kk p2) p3] X.env := by rfl)
    (hs3 : starEach [.UnaryOp .USub (.Constant (.int 1) kk p2) p3] X.env = (false, eval (.UnaryOp .USub (.Constant (.int 1) kk p2) p3) X.env) :: starEach [] X.env := by rfl)
    (hpl : (backTo pos (starEach [b, .UnaryOp .USub (.Constant (.int 1) kk p2) p3] X.env)).any (·.1) = false := by rfl) :
    PI X tg (.Call (.Name "range" p) [a, b, .UnaryOp .USub (.Constant (.int 1) kk p2) p3] [] pos) (RdI G Wx (evalI C (.rngd ia ib))) :=
  (pi_range3 hg (S.bmg _ (by decide)) (pa_cons ha (pa_cons hb (pa_cons (pe_un un_neg pe_int) pa_nil hs3) hs2) hs) hs hpl).of fun σ H R ⟨ρ, η, St, RA, h⟩ => rd1 (f := fun w S1 => ((evalP C ib).1 η S1).bind fun u S2 => match w, u with
    | .d (.int i), .d (.int n) => if (-1000000 ≤ i ∧ i < 1000000) ∧ -1000000 ≤ n ∧ n < 1000000 then .ok (Src.fix ((List.range (i - n).toNat).map fun (k : Nat) => .int (i + k * -1))) S2 else .stk
    | _, _ => .stk) RA h fun w v ρ1 S1 H1 R1 e1 r1 h1 => rd1 R1 h1 fun w2 v2 ρ2 S2 H2 R2 e2 r2 h2 => by
    cases r1 with
    | d r1 =>
      cases r1 with
      | int i =>
        cases r2 with
        | d r2 =>
          cases r2 with
          | int n =>
            dsimp only at h2
            split at h2
            · next hn =>
              refine ⟨1, rfl, i, n, -1, (i - n).toNat, rfl, RgC.neg (by omega) (by omega) (by omega) (by omega), h2.now R2.st _ fix_rngC⟩
            · exact h2.elim
          | _ => exact h2.elim
        | _ => exact h2.elim
      | _ => exact h2.elim
    | _ => exact h2.elim
/-- a + b of lists that gets a cell -/
theorem e_catT (S : Sd G Wx C k X) (ha : PE X a (RE G none Wx C ia)) (hb : PE X b (RE G none Wx C ib)) : PE X (.BinOp a .Add b pos) (RE G none Wx C (.thaw (.bin .add ia ib))) :=
  (pe_op op_cat ha hb).of fun σ H Q ⟨ρ, η, St, R, h0⟩ => by
    replace h0 : Sat G (fun c d H => Wx c d σ H) ρ St H ((((evalP C ia).1 η St).bind fun x S1 => ((evalP C ib).1 η S1).bind fun y S2 => (ofO (binD .add x y S2) S2).bind fun z S3 => .ok (W.d z) S3).bind fun w S1 => thawD w S1) _ := h0
    rw [Res.bind_assoc] at h0
    refine rd1 (f := fun x S1 => (((evalP C ib).1 η S1).bind fun y S2 => (ofO (binD .add x y S2) S2).bind fun z S3 => .ok (W.d z) S3).bind fun w S1 => thawD w S1) R h0 fun w v ρ1 S1 H1 R1 e1 r1 h1 => ?_
    rw [Res.bind_assoc] at h1
    refine rd1 (f := fun y S2 => ((ofO (binD .add w y S2) S2).bind fun z S3 => .ok (W.d z) S3).bind fun w S1 => thawD w S1) R1 h1 fun w2 v2 ρ2 S2 H2 R2 e2 r2 h2 => ?_
    rw [Res.bind_assoc] at h2
    obtain ⟨z, ez, h3⟩ := h2.ofO_bind
    rw [Res.bind_ok] at h3
    replace ez : addD w w2 S2 = some z := ez
    unfold addD at ez
    have r1' := r1.mono e2.kp e2.pre
    split at ez
    · cases ez; exact h3.elim
    · split at ez
      · cases ez; exact h3.elim
      · cases ez
    · split at ez
      · cases ez; exact h3.elim
      · cases ez
    · split at ez
      · next s1 t1 q1 q2 =>
        split at ez
        · next hl =>
          cases ez
          obtain ⟨p, vs, rfl, g1, s1⟩ := r1'.lstOf R2.st q1
          obtain ⟨q, us, rfl, g2, s2⟩ := r2.lstOf R2.st q2
          refine ⟨_, _, vs, us, rfl, rfl, g1, g2, by rw [← s1.length, ← s2.length]; exact hl, fun l hl => ?_⟩
          exact h3.after (Ext.newCell (c := .lst _) (o := .lst (vs ++ us)) R2.st hl) (R2.st.newLst hl (s1.append s2)) _ (.loc (by rw [← R2.st.len]; exact app_get _ _))
        · cases ez
      · cases ez
/-- a * n of a list that gets a cell -/
theorem e_repT (S : Sd G Wx C k X) (ha : PE X a (RE G none Wx C ia)) (hb : PE X b (RE G none Wx C ib)) : PE X (.BinOp a .Mult b pos) (RE G none Wx C (.thaw (.bin .mul ia ib))) :=
  (pe_op op_rep ha hb).of fun σ H Q ⟨ρ, η, St, R, h0⟩ => by
    replace h0 : Sat G (fun c d H => Wx c d σ H) ρ St H ((((evalP C ia).1 η St).bind fun x S1 => ((evalP C ib).1 η S1).bind fun y S2 => (ofO (binD .mul x y S2) S2).bind fun z S3 => .ok (W.d z) S3).bind fun w S1 => thawD w S1) _ := h0
    rw [Res.bind_assoc] at h0
    refine rd1 (f := fun x S1 => (((evalP C ib).1 η S1).bind fun y S2 => (ofO (binD .mul x y S2) S2).bind fun z S3 => .ok (W.d z) S3).bind fun w S1 => thawD w S1) R h0 fun w v ρ1 S1 H1 R1 e1 r1 h1 => ?_
    rw [Res.bind_assoc] at h1
    refine rd1 (f := fun y S2 => ((ofO (binD .mul w y S2) S2).bind fun z S3 => .ok (W.d z) S3).bind fun w S1 => thawD w S1) R1 h1 fun w2 v2 ρ2 S2 H2 R2 e2 r2 h2 => ?_
    rw [Res.bind_assoc] at h2
    obtain ⟨z, ez, h3⟩ := h2.ofO_bind
    rw [Res.bind_ok] at h3
    replace ez : mulD w w2 S2 = some z := ez
    unfold mulD at ez
    have r1' := r1.mono e2.kp e2.pre
    split at ez
    · split at ez
      · cases ez; exact h3.elim
      · cases ez
    · split at ez
      · cases ez; exact h3.elim
      · cases ez
    · split at ez
      · next s1 q1 =>
        split at ez
        · next hl =>
          cases ez
          obtain ⟨p, vs, rfl, g1, s1⟩ := r1'.lstOf R2.st q1
          have q2 := r2.d_inv.int_inv
          subst q2
          refine ⟨_, _, vs, rfl, rfl, g1, hl.2.1, hl.2.2, by rw [← s1.length]; exact hl.1, fun l hl => ?_⟩
          exact h3.after (Ext.newCell (c := .lst _) (o := .lst _) R2.st hl) (R2.st.newLst hl (s1.rep _)) _ (.loc (by rw [← R2.st.len]; exact app_get _ _))
        · cases ez
      · cases ez
    · cases ez
/-- l.pop() is l.pop(-1) -/
def rPop0 (G : Wd) (ex : Ex) : V → List V → Hp → VK → Prop := fun x vs H Q => vs = [] ∧ rBm G ex .pop x [.int (-1)] H Q
theorem mt_pop0 (hK : X.K = G.K) : MtR X "list.pop" (rPop0 G ex) := by
  rintro pins s σ H x xs v us Q I rx rv ⟨rfl, ρ, S, o, ws, w, S', R, ro, rw', e, k⟩
  unfold bmD at e
  split at e <;> try (first | cases e | contradiction)
  next l i hm =>
  split at e
  · next ys e1 =>
    split at e
    · next j e2 =>
      split at e
      · next z e3 =>
        cases e
        obtain ⟨y, ey, r⟩ := rw'.one
        simp only [List.cons.injEq, and_true] at ey
        subst ey
        have q := r.d_inv.int_inv
        cases q
        cases ro with
        | loc ha =>
          cases R.cell l _ _ e1 ha with
          | lst h1 h2 =>
            rename_i vs0
            obtain ⟨zv, e4, rz⟩ := h2.get e3
            have hj : j = ys.length - 1 ∧ 0 < ys.length := by
              unfold L2.ixN at e2
              rw [if_neg (by decide)] at e2
              split at e2
              · next h =>
                simp only [Option.some.injEq] at e2
                omega
              · cases e2
            have hjv : j = vs0.length - 1 := by rw [← h2.length]; exact hj.1
            rw [hjv] at e4
            refine mt_pop pins s σ H _ _ v us Q I rx rv ⟨_, _, zv, rfl, rfl, h1, e4, ?_⟩
            have ec := Ext.setCell (c' := .lst (ys.eraseIdx j)) (o := .lst (List.eraseIdx vs0 j)) R e1 rfl ha
            have hd : vs0.dropLast = vs0.eraseIdx j := by
              rw [hjv]
              exact List.eraseIdx_length_sub_one.symm
            rw [hd]
            exact k _ _ ec (R.setCell e1 rfl ha (.lst upd_same ((h2.mono ec.kp).erase _))) (.d (rz.mono ec.kp))
      · cases e
    · cases e
  · cases e
theorem e_pop0 (S : Sd G Wx C k X) (ho : PE X o (RE G ex Wx C io)) (hbase : attributeBase o "pop" X.env (eval o X.env) = eval o X.env := by rfl) (hline : (apos.endLine == pos.line) = true := by rfl) :
    PE X (.Call (.Attribute o "pop" apos) [] [] pos) (RE G ex Wx C (.bm io .pop (.cons (.int (-1)) .nil))) :=
  (pe_bm0 PySem.F.plainAttrs_list PySem.F.slot_list_pop PySem.F.type_list_pop (mt_pop0 (G := G) (ex := ex) S.hK) ho hbase hline).of fun σ H Q h => by
    obtain ⟨ρ, η, St, R, h0⟩ := h
    refine rd1 (f := fun o S1 => if recvOk .pop o S1 = true then (evalEs C (.cons (.int (-1)) .nil) η S1).bind fun ws S2 => bmD .pop o ws S2 else .stk) R h0 fun w v ρ1 S1 H1 R1 e1 r1 h1 => ?_
    split at h1
    · next hr =>
      replace h1 : Sat G (fun c d H => Wx c d σ H) ρ1 S1 H1 (bmD .pop w [.d (.int (-1))] S1) _ := h1
      refine ⟨recv_list (by decide) R1.st r1 hr, rfl, ?_⟩
      cases hb : bmD .pop w [.d (.int (-1))] S1 with
      | ok z S3 => exact ⟨ρ1, S1, w, [.d (.int (-1))], z, S3, R1.st, r1, .cons (.d (.int _)) .nil, hb, fun v' H' e' R' r' => by rw [hb] at h1; exact h1 _ _ e' R' v' r'⟩
      | exc c fs S3 => exact (bm_noexc hb).elim
      | stk => rw [hb] at h1; exact h1.elim
    · exact h1.elim
theorem t_din (S : Sd G Wx C k X) (hb : PE X b (RE G ex Wx C ib)) (ha : PE X a (RE G ex Wx C ia)) (hm : behindInMarks .In a = false := by with_unfolding_all rfl) : PT X (.Compare b [.In] [a] pos) (RT G ex Wx C (.din false ib ia)) :=
  (pt_cmp (pc_din (by have := S.un; omega) hb ha) hm).of fun σ H Q ⟨ρ, η, St, R, h0⟩ => by
    replace h0 : Sat G (fun c d H => Wx c d σ H) ρ St H ((((evalP C ib).1 η St).bind fun y S1 => ((evalP C ia).1 η S1).bind fun x S2 => match dgetD x y S2 with
      | some o => .ok (W.d (.bl (if false then !o.isSome else o.isSome))) S2
      | none => .stk).bind fun x S1 => ofO (truthy x S1) S1) _ := h0
    rw [Res.bind_assoc] at h0
    refine rd1 R h0 fun w v ρ1 S1 H1 R1 e1 r1 h1 => ?_
    rw [Res.bind_assoc] at h1
    refine rd1 R1 h1 fun w2 v2 ρ2 S2 H2 R2 e2 r2 h2 => ?_
    cases ho : dgetD w2 w S2 with
    | none => rw [ho] at h2; exact h2.elim
    | some o =>
      rw [ho] at h2
      obtain ⟨a, o', rfl, g, q⟩ := dget_of R2.st r2 (r1.mono e2.kp e2.pre) ho
      have : o'.isSome = o.isSome := by
        cases o with
        | some y => obtain ⟨u, rfl, _⟩ := q; rfl
        | none => rw [q]; rfl
      refine ⟨a, o', rfl, g, _, rfl, ?_⟩
      rw [this]
      exact Sat.now (a := o.isSome) R2.st h2
theorem t_dnin (S : Sd G Wx C k X) (hb : PE X b (RE G ex Wx C ib)) (ha : PE X a (RE G ex Wx C ia)) (hm : behindInMarks .NotIn a = false := by with_unfolding_all rfl) : PT X (.Compare b [.NotIn] [a] pos) (RT G ex Wx C (.din true ib ia)) :=
  (pt_cmp (pc_dnotin (by have := S.un; omega) hb ha) hm).of fun σ H Q ⟨ρ, η, St, R, h0⟩ => by
    replace h0 : Sat G (fun c d H => Wx c d σ H) ρ St H ((((evalP C ib).1 η St).bind fun y S1 => ((evalP C ia).1 η S1).bind fun x S2 => match dgetD x y S2 with
      | some o => .ok (W.d (.bl (if true then !o.isSome else o.isSome))) S2
      | none => .stk).bind fun x S1 => ofO (truthy x S1) S1) _ := h0
    rw [Res.bind_assoc] at h0
    refine rd1 R h0 fun w v ρ1 S1 H1 R1 e1 r1 h1 => ?_
    rw [Res.bind_assoc] at h1
    refine rd1 R1 h1 fun w2 v2 ρ2 S2 H2 R2 e2 r2 h2 => ?_
    cases ho : dgetD w2 w S2 with
    | none => rw [ho] at h2; exact h2.elim
    | some o =>
      rw [ho] at h2
      obtain ⟨a, o', rfl, g, q⟩ := dget_of R2.st r2 (r1.mono e2.kp e2.pre) ho
      have : o'.isSome = o.isSome := by
        cases o with
        | some y => obtain ⟨u, rfl, _⟩ := q; rfl
        | none => rw [q]; rfl
      refine ⟨a, o', rfl, g, _, rfl, ?_⟩
      rw [this]
      exact Sat.now (a := !o.isSome) R2.st h2
end
end RI
namespace Ir
open RI PySem
abbrev f0b0 : ISs := (.cons .pass .nil)
abbrev f0s0 : IS := (.whl (.bl true) f0b0)
def f0 : FnD := { name := "_wall", N := ["k"], np := 1, keep := false, top := true, body := (.cons f0s0 .nil) }
abbrev f1s0 : IS := (.asg (.fld (.var 0) 1) (.var 1))
def f1 : FnD := { name := "__init__", N := ["self", "part"], np := 2, keep := false, top := false, body := (.cons f1s0 .nil) }
abbrev f2s0 : IS := (.ret (.and (.cons (.isi (.var 0) [.int]) (.cons (.not (.isi (.var 0) [.bool])) .nil))))
def f2 : FnD := { name := "is_integer", N := ["thing"], np := 1, keep := false, top := true, body := (.cons f2s0 .nil) }
abbrev f3s0 : IS := (.ret (.and (.cons (.call 2 (.cons (.var 0) .nil)) (.cons (.chain .le .le (.var 1) (.var 0) (.var 2)) .nil))))
def f3 : FnD := { name := "is_within", N := ["thing", "least", "most"], np := 3, keep := false, top := true, body := (.cons f3s0 .nil) }
abbrev f4s0 : IS := (.ret (.and (.cons (.isi (.var 0) [.tuple]) (.cons (.cmp .eq (.bi .len (.cons (.var 0) .nil)) (.int 2)) .nil))))
def f4 : FnD := { name := "is_pair", N := ["thing"], np := 1, keep := false, top := true, body := (.cons f4s0 .nil) }
abbrev f5s0 : IS := (.ret (.and (.cons (.isi (.var 0) [.tuple]) (.cons (.chain .le .le (.var 1) (.bi .len (.cons (.var 0) .nil)) (.var 2)) .nil))))
def f5 : FnD := { name := "is_sized", N := ["thing", "least", "most"], np := 3, keep := false, top := true, body := (.cons f5s0 .nil) }
abbrev f6c0 : IE := .lc (.call 3 (.cons (.var 4) (.cons (.int 0) (.cons (.bin .sub (.var 1) (.int 1)) .nil)))) [4] (.nm 4) (.seq (.var 0)) .no
abbrev f6c1 : IE := .lc (.cmp .lt (.var 2) (.var 3)) [2, 3] (.tup (.cons (.nm 2) (.cons (.nm 3) .nil))) (.zip (.var 0) (.sl (.var 0) (.yes (.int 1)) .no)) .no
abbrev f6s0 : IS := (.ife (.or (.cons (.not (.isi (.var 0) [.tuple])) (.cons (.not (.bi .all (.cons f6c0 .nil))) .nil))) (.cons (.ret (.bl false)) .nil) .nil)
abbrev f6s1 : IS := (.ret (.bi .all (.cons f6c1 .nil)))
def f6 : FnD := { name := "is_lot", N := ["thing", "size", "one", "other", "item"], np := 2, keep := false, top := true, body := (.cons f6s0 (.cons f6s1 .nil)) }
abbrev f7b0 : ISs := (.cons (.par [0, 1] (.cons (.var 1) (.cons (.bin .mod (.var 0) (.var 1)) .nil))) .nil)
abbrev f7s0 : IS := (.par [0, 1] (.cons (.bi .abs (.cons (.var 0) .nil)) (.cons (.bi .abs (.cons (.var 1) .nil)) .nil)))
abbrev f7s1 : IS := (.whl (.cmp .ne (.var 1) (.int 0)) f7b0)
abbrev f7s2 : IS := (.ret (.var 0))
def f7 : FnD := { name := "divisor", N := ["one", "other"], np := 2, keep := false, top := true, body := (.cons f7s0 (.cons f7s1 (.cons f7s2 .nil))) }
abbrev f8s0 : IS := (.ife (.or (.cons (.not (.call 4 (.cons (.var 0) .nil))) (.cons (.not (.call 2 (.cons (.ix (.var 0) (.int 0)) .nil))) (.cons (.not (.call 2 (.cons (.ix (.var 0) (.int 1)) .nil))) .nil)))) (.cons (.ret (.bl false)) .nil) .nil)
abbrev f8s1 : IS := (.ret (.and (.cons (.cmp .gt (.ix (.var 0) (.int 1)) (.int 0)) (.cons (.cmp .eq (.call 7 (.cons (.ix (.var 0) (.int 0)) (.cons (.ix (.var 0) (.int 1)) .nil))) (.int 1)) .nil))))
def f8 : FnD := { name := "is_number", N := ["thing"], np := 1, keep := false, top := true, body := (.cons f8s0 (.cons f8s1 .nil)) }
abbrev f9c0 : IE := .lc (.call 8 (.cons (.var 2) .nil)) [2] (.nm 2) (.seq (.var 0)) .no
abbrev f9s0 : IS := (.ret (.and (.cons (.isi (.var 0) [.tuple]) (.cons (.cmp .eq (.bi .len (.cons (.var 0) .nil)) (.var 1)) (.cons (.bi .all (.cons f9c0 .nil)) .nil)))))
def f9 : FnD := { name := "is_row", N := ["thing", "size", "item"], np := 2, keep := false, top := true, body := (.cons f9s0 .nil) }
abbrev f10c0 : IE := .lc (.ifx (.cmp .eq (.var 2) (.var 1)) (.glob 1) (.glob 0)) [2] (.nm 2) (.rng (.var 0)) .no
abbrev f10s0 : IS := (.ret (.bi .tuple (.cons f10c0 .nil)))
def f10 : FnD := { name := "unit_row", N := ["size", "at", "place"], np := 2, keep := false, top := true, body := (.cons f10s0 .nil) }
abbrev f11b0 : ISs := (.cons (.asg (.nm 1) (.bin .fdiv (.bin .mul (.var 1) (.ix (.var 2) (.int 1))) (.call 7 (.cons (.var 1) (.cons (.ix (.var 2) (.int 1)) .nil))))) .nil)
abbrev f11c0 : IE := .lc (.bin .mul (.ix (.var 2) (.int 0)) (.bin .fdiv (.var 1) (.ix (.var 2) (.int 1)))) [2] (.nm 2) (.seq (.var 0)) .no
abbrev f11s0 : IS := (.asg (.nm 1) (.int 1))
abbrev f11s1 : IS := (.for_ (.nm 2) (.seq (.var 0)) f11b0)
abbrev f11s2 : IS := (.ret (.call 12 (.cons f11c0 .nil)))
def f11 : FnD := { name := "whole", N := ["row", "bottom", "item"], np := 1, keep := false, top := true, body := (.cons f11s0 (.cons f11s1 (.cons f11s2 .nil))) }
abbrev f12b0 : ISs := (.cons (.asg (.nm 1) (.call 7 (.cons (.var 1) (.cons (.var 2) .nil)))) .nil)
abbrev f12c0 : IE := .lc (.bin .fdiv (.var 2) (.var 1)) [2] (.nm 2) (.seq (.var 0)) .no
abbrev f12s0 : IS := (.asg (.nm 1) (.int 0))
abbrev f12s1 : IS := (.for_ (.nm 2) (.seq (.var 0)) f12b0)
abbrev f12s2 : IS := (.ret (.ifx (.cmp .gt (.var 1) (.int 1)) f12c0 (.var 0)))
def f12 : FnD := { name := "lighter", N := ["row", "common", "item"], np := 1, keep := false, top := true, body := (.cons f12s0 (.cons f12s1 (.cons f12s2 .nil))) }
abbrev f13c0 : IE := .lc (.var 2) [2, 3] (.tup (.cons (.nm 2) (.cons (.nm 3) .nil))) (.enum (.var 0)) (.yes (.cmp .ne (.var 3) (.int 0)))
abbrev f13s0 : IS := (.asg (.nm 1) f13c0)
abbrev f13s1 : IS := (.ret (.ifx (.cmp .gt (.bi .len (.cons (.var 1) .nil)) (.int 0)) (.ix (.var 1) (.int 0)) .non))
def f13 : FnD := { name := "leading", N := ["row", "found", "place", "item"], np := 1, keep := false, top := true, body := (.cons f13s0 (.cons f13s1 .nil)) }
abbrev f14b0 : ISs := (.cons (.expr (.meth (.var 0) 3 (.cons (.var 2) .nil))) .nil)
abbrev f14s0 : IS := (.asg (.fld (.var 0) 2) .dnew)
abbrev f14s1 : IS := (.for_ (.nm 2) (.seq (.var 1)) f14b0)
def f14 : FnD := { name := "__init__", N := ["self", "rows", "row"], np := 2, keep := true, top := false, body := (.cons f14s0 (.cons f14s1 .nil)) }
abbrev f15c0 : IE := .lc (.bin .sub (.bin .mul (.var 7) (.var 6)) (.bin .mul (.var 8) (.var 5))) [7, 8] (.tup (.cons (.nm 7) (.cons (.nm 8) .nil))) (.zip (.var 2) (.var 4)) .no
abbrev f15b0 : ISs := (.cons (.ife (.cmp .ne (.ix (.var 2) (.var 3)) (.int 0)) (.cons (.asg (.nm 4) (.dix (.fld (.var 0) 2) (.var 3))) (.cons (.asg (.tup (.cons (.nm 5) (.cons (.nm 6) .nil))) (.tup (.cons (.ix (.var 2) (.var 3)) (.cons (.ix (.var 4) (.var 3)) .nil)))) (.cons (.asg (.nm 2) (.call 12 (.cons f15c0 .nil))) .nil))) .nil) .nil)
abbrev f15s0 : IS := (.asg (.nm 2) (.call 11 (.cons (.var 1) .nil)))
abbrev f15s1 : IS := (.for_ (.nm 3) (.seq (.srt (.dkeys (.fld (.var 0) 2)))) f15b0)
abbrev f15s2 : IS := (.ret (.var 2))
def f15 : FnD := { name := "left_of", N := ["self", "row", "left", "place", "known", "top", "bottom", "item", "other"], np := 2, keep := false, top := false, body := (.cons f15s0 (.cons f15s1 (.cons f15s2 .nil))) }
abbrev f16s0 : IS := (.asg (.nm 2) (.meth (.var 0) 4 (.cons (.var 1) .nil)))
abbrev f16s1 : IS := (.asg (.nm 3) (.call 13 (.cons (.var 2) .nil)))
abbrev f16s2 : IS := (.ife (.isn false (.var 3)) (.cons (.ret (.bl false)) .nil) .nil)
abbrev f16s3 : IS := (.asg (.dsub (.fld (.var 0) 2) (.var 3)) (.var 2))
abbrev f16s4 : IS := (.ret (.bl true))
def f16 : FnD := { name := "add", N := ["self", "row", "left", "place"], np := 2, keep := false, top := false, body := (.cons f16s0 (.cons f16s1 (.cons f16s2 (.cons f16s3 (.cons f16s4 .nil))))) }
abbrev f17s0 : IS := (.ret (.isn false (.call 13 (.cons (.meth (.var 0) 4 (.cons (.var 1) .nil)) .nil))))
def f17 : FnD := { name := "holds", N := ["self", "row"], np := 2, keep := false, top := false, body := (.cons f17s0 .nil) }
abbrev f18s0 : IS := (.expr (.call 0 (.cons (.int 0) .nil)))
def f18 : FnD := { name := "rank", N := ["self"], np := 1, keep := false, top := false, body := (.cons f18s0 .nil) }
abbrev f19c0 : IE := .lc (.var 3) [3, 4] (.tup (.cons (.nm 3) (.cons (.nm 4) .nil))) (.enum (.var 0)) (.yes (.meth (.var 2) 3 (.cons (.var 4) .nil)))
abbrev f19s0 : IS := (.asg (.nm 2) (.mk 4 (.cons (.var 1) .nil)))
abbrev f19s1 : IS := (.ret f19c0)
def f19 : FnD := { name := "free_places", N := ["rows", "safe", "steps", "place", "row"], np := 2, keep := false, top := true, body := (.cons f19s0 (.cons f19s1 .nil)) }
abbrev f20b0 : ISs := (.cons (.ife (.and (.cons (.isn true (.var 5)) (.cons (.not (.call 9 (.cons (.var 5) (.cons (.bi .len (.cons (.var 1) .nil)) .nil)))) .nil))) (.cons (.raise 1 (.cons (.tup (.cons (.str [114, 111, 119]) (.cons (.var 4) .nil))) .nil)) .nil) .nil) .nil)
abbrev f20s0 : IS := (.ife (.not (.call 5 (.cons (.var 1) (.cons (.int 1) (.cons (.glob 2) .nil))))) (.cons (.raise 1 (.cons (.tup (.cons (.str [114, 111, 119, 115]) .nil)) .nil)) .nil) .nil)
abbrev f20s1 : IS := (.for_ (.tup (.cons (.nm 4) (.cons (.nm 5) .nil))) (.enum (.var 1)) f20b0)
abbrev f20s2 : IS := (.ife (.not (.call 6 (.cons (.var 2) (.cons (.bi .len (.cons (.var 1) .nil)) .nil)))) (.cons (.raise 1 (.cons (.tup (.cons (.str [108, 111, 99, 107, 101, 100]) .nil)) .nil)) .nil) .nil)
abbrev f20s3 : IS := (.ife (.not (.call 3 (.cons (.var 3) (.cons (.int 0) (.cons (.glob 3) .nil))))) (.cons (.raise 1 (.cons (.tup (.cons (.str [115, 112, 97, 114, 101]) .nil)) .nil)) .nil) .nil)
abbrev f20s4 : IS := (.asg (.fld (.var 0) 5) (.var 1))
abbrev f20s5 : IS := (.asg (.fld (.var 0) 6) (.var 2))
abbrev f20s6 : IS := (.asg (.fld (.var 0) 7) (.var 3))
def f20 : FnD := { name := "__init__", N := ["self", "rows", "locked", "spare", "cell", "row"], np := 4, keep := false, top := false, body := (.cons f20s0 (.cons f20s1 (.cons f20s2 (.cons f20s3 (.cons f20s4 (.cons f20s5 (.cons f20s6 .nil))))))) }
abbrev f21s0 : IS := (.ife (.not (.isi (.var 1) [.cls 5])) (.cons (.ret (.bl false)) .nil) .nil)
abbrev f21s1 : IS := (.ret (.and (.cons (.cmp .eq (.fld (.var 0) 5) (.fld (.var 1) 5)) (.cons (.cmp .eq (.fld (.var 0) 6) (.fld (.var 1) 6)) (.cons (.cmp .eq (.fld (.var 0) 7) (.fld (.var 1) 7)) .nil)))))
def f21 : FnD := { name := "__eq__", N := ["self", "other"], np := 2, keep := false, top := false, body := (.cons f21s0 (.cons f21s1 .nil)) }
abbrev f22s0 : IS := (.ret (.bi .len (.cons (.fld (.var 0) 5) .nil)))
def f22 : FnD := { name := "own_cells", N := ["wish"], np := 1, keep := false, top := true, body := (.cons f22s0 .nil) }
abbrev f23s0 : IS := (.ret (.bin .add (.bi .len (.cons (.fld (.var 0) 5) .nil)) (.fld (.var 0) 7)))
def f23 : FnD := { name := "all_cells", N := ["wish"], np := 1, keep := false, top := true, body := (.cons f23s0 .nil) }
abbrev f24c0 : IE := .lc (.var 1) [1, 2] (.tup (.cons (.nm 1) (.cons (.nm 2) .nil))) (.enum (.fld (.var 0) 5)) (.yes (.isn true (.var 2)))
abbrev f24s0 : IS := (.ret f24c0)
def f24 : FnD := { name := "wished_cells", N := ["wish", "cell", "row"], np := 1, keep := false, top := true, body := (.cons f24s0 .nil) }
abbrev f25c0 : IE := .lc (.call 3 (.cons (.var 2) (.cons (.int 0) (.cons (.bin .sub (.call 23 (.cons (.var 0) .nil)) (.int 1)) .nil)))) [2] (.nm 2) (.seq (.var 1)) .no
abbrev f25s0 : IS := (.ret (.and (.cons (.call 5 (.cons (.var 1) (.cons (.int 0) (.cons (.glob 4) .nil)))) (.cons (.bi .all (.cons f25c0 .nil)) .nil))))
def f25 : FnD := { name := "is_order", N := ["wish", "thing", "cell"], np := 2, keep := false, top := true, body := (.cons f25s0 .nil) }
abbrev f26s0 : IS := (.ife (.not (.call 25 (.cons (.var 0) (.cons (.var 1) .nil)))) (.cons (.raise 2 .nil) .nil) .nil)
def f26 : FnD := { name := "check_order", N := ["wish", "order"], np := 2, keep := false, top := true, body := (.cons f26s0 .nil) }
abbrev f27c0 : IE := .lc (.tup (.cons (.var 1) .nil)) [1] (.nm 1) (.seq (.var 0)) .no
abbrev f27s0 : IS := (.ret (.bi .tuple (.cons f27c0 .nil)))
def f27 : FnD := { name := "ticks_of", N := ["order", "cell"], np := 1, keep := false, top := true, body := (.cons f27s0 .nil) }
abbrev f28s0 : IS := (.ife (.cmp .nin (.var 1) (.var 2)) (.cons (.ret (.glob 5)) .nil) .nil)
abbrev f28s1 : IS := (.asg (.nm 4) (.and (.cons (.cmp .lt (.var 1) (.call 22 (.cons (.var 0) .nil))) (.cons (.isn true (.ix (.fld (.var 0) 5) (.var 1))) .nil))))
abbrev f28s2 : IS := (.ret (.ifx (.and (.cons (.var 4) (.cons (.cmp .nin (.var 1) (.var 3)) .nil))) (.glob 6) (.glob 7)))
def f28 : FnD := { name := "stage_of", N := ["wish", "cell", "ahead", "behind", "is_wished"], np := 4, keep := false, top := true, body := (.cons f28s0 (.cons f28s1 (.cons f28s2 .nil))) }
abbrev f29c0 : IE := .lc (.bi .list (.cons (.var 5) .nil)) [5] (.nm 5) (.seq (.sl (.var 1) .no (.yes (.var 2)))) .no
abbrev f29c1 : IE := .lc (.bi .list (.cons (.var 5) .nil)) [5] (.nm 5) (.seq (.sl (.var 1) (.yes (.var 2)) .no)) .no
abbrev f29c2 : IE := .lc (.call 28 (.cons (.var 0) (.cons (.var 6) (.cons (.var 3) (.cons (.var 4) .nil))))) [6] (.nm 6) (.rng (.call 23 (.cons (.var 0) .nil))) .no
abbrev f29s0 : IS := (.asg (.nm 3) (.bi .sum (.cons f29c0 (.cons (.lst .nil) .nil))))
abbrev f29s1 : IS := (.asg (.nm 4) (.bi .sum (.cons f29c1 (.cons (.lst .nil) .nil))))
abbrev f29s2 : IS := (.ret (.bi .tuple (.cons f29c2 .nil)))
def f29 : FnD := { name := "stages_at", N := ["wish", "ticks", "moment", "ahead", "behind", "tick", "cell"], np := 3, keep := false, top := true, body := (.cons f29s0 (.cons f29s1 (.cons f29s2 .nil))) }
abbrev f30c0 : IE := .lc (.call 10 (.cons (.var 2) (.cons (.var 4) .nil))) [4] (.nm 4) (.rng (.var 2)) (.yes (.cmp .eq (.ix (.var 1) (.var 4)) (.glob 5)))
abbrev f30c1 : IE := .lc (.ix (.fld (.var 0) 5) (.var 4)) [4] (.nm 4) (.rng (.var 2)) (.yes (.cmp .eq (.ix (.var 1) (.var 4)) (.glob 6)))
abbrev f30s0 : IS := (.asg (.nm 2) (.call 22 (.cons (.var 0) .nil)))
abbrev f30s1 : IS := (.asg (.nm 3) f30c0)
abbrev f30s2 : IS := (.ret (.bin .add (.var 3) f30c1))
def f30 : FnD := { name := "safe_rows", N := ["wish", "words", "many", "found", "cell"], np := 2, keep := false, top := true, body := (.cons f30s0 (.cons f30s1 (.cons f30s2 .nil))) }
abbrev f31c0 : IE := .lc (.ix (.fld (.var 0) 5) (.var 5)) [5] (.nm 5) (.seq (.var 2)) .no
abbrev f31c1 : IE := .lc (.ix (.var 2) (.var 4)) [4] (.nm 4) (.seq (.var 3)) .no
abbrev f31s0 : IS := (.asg (.nm 2) (.call 24 (.cons (.var 0) .nil)))
abbrev f31s1 : IS := (.asg (.nm 3) (.call 19 (.cons f31c0 (.cons (.call 30 (.cons (.var 0) (.cons (.var 1) .nil))) .nil))))
abbrev f31s2 : IS := (.ret f31c1)
def f31 : FnD := { name := "free_cells", N := ["wish", "words", "cells", "places", "place", "cell"], np := 2, keep := false, top := true, body := (.cons f31s0 (.cons f31s1 (.cons f31s2 .nil))) }
abbrev f32c0 : IE := .lc (.var 1) [1, 2] (.tup (.cons (.nm 1) (.cons (.nm 2) .nil))) (.enum (.var 0)) (.yes (.cmp .eq (.var 2) (.glob 7)))
abbrev f32s0 : IS := (.ret f32c0)
def f32 : FnD := { name := "amid_cells", N := ["words", "cell", "word"], np := 1, keep := false, top := true, body := (.cons f32s0 .nil) }
abbrev f33s0 : IS := (.ret (.tup (.cons (.bi .len (.cons (.call 31 (.cons (.var 0) (.cons (.var 1) .nil))) .nil)) (.cons (.bi .len (.cons (.call 32 (.cons (.var 1) .nil)) .nil)) .nil))))
def f33 : FnD := { name := "lack_at", N := ["wish", "words"], np := 2, keep := false, top := true, body := (.cons f33s0 .nil) }
abbrev f34s0 : IS := (.expr (.call 26 (.cons (.var 0) (.cons (.var 1) .nil))))
abbrev f34s1 : IS := (.ife (.not (.call 3 (.cons (.var 2) (.cons (.int 0) (.cons (.bi .len (.cons (.var 1) .nil)) .nil))))) (.cons (.raise 3 .nil) .nil) .nil)
abbrev f34s2 : IS := (.ret (.call 29 (.cons (.var 0) (.cons (.call 27 (.cons (.var 1) .nil)) (.cons (.var 2) .nil)))))
def f34 : FnD := { name := "stages", N := ["wish", "order", "moment"], np := 3, keep := false, top := true, body := (.cons f34s0 (.cons f34s1 (.cons f34s2 .nil))) }
abbrev f35s0 : IS := (.ret (.call 33 (.cons (.var 0) (.cons (.call 34 (.cons (.var 0) (.cons (.var 1) (.cons (.var 2) .nil)))) .nil))))
def f35 : FnD := { name := "lack", N := ["wish", "order", "moment"], np := 3, keep := false, top := true, body := (.cons f35s0 .nil) }
abbrev f36b0 : ISs := (.cons (.asg (.nm 1) (.bin .mod (.bi .int (.cons (.bin .add (.bin .add (.bin .mul (.var 1) (.int 48271)) (.bin .mod (.bi .int (.cons (.var 2) .nil)) (.int 2147483629))) (.int 11)) .nil)) (.int 2147483647))) .nil)
abbrev f36c0 : IE := .lc (.bi .abs (.cons (.var 2) .nil)) [2] (.nm 2) (.seq (.sl (.var 0) .no (.yes (.int 63)))) (.yes (.cmp .ge (.bi .abs (.cons (.var 2) .nil)) (.bin .pow (.int 10) (.int 18))))
abbrev f36s0 : IS := (.asg (.nm 1) (.bin .add (.bin .add (.bin .mod (.bi .int (.cons (.bi .sum (.cons (.sl (.var 0) .no (.yes (.int 1))) .nil)) .nil)) (.int 1000003)) (.bi .len (.cons (.var 0) .nil))) (.int 1)))
abbrev f36s1 : IS := (.for_ (.nm 2) (.seq (.sl (.var 0) .no (.yes (.int 63)))) f36b0)
abbrev f36s2 : IS := (.ret (.lsw (.cons (.var 1) (.cons (.int 0) (.cons (.thaw (f36c0)) .nil)))))
def f36 : FnD := { name := "_law_pool", N := ["script", "seed", "cell"], np := 1, keep := true, top := true, body := (.cons f36s0 (.cons f36s1 (.cons f36s2 .nil))) }
abbrev f37s0 : IS := (.asg (.sub (.var 0) (.int 1)) (.bin .add (.ix (.var 0) (.int 1)) (.int 1)))
abbrev f37s1 : IS := (.asg (.nm 2) (.ix (.var 0) (.int 2)))
abbrev f37s2 : IS := (.ife (.cmp .gt (.bi .len (.cons (.var 2) .nil)) (.int 0)) (.cons (.asg (.nm 4) (.bin .mod (.bi .int (.cons (.ix (.var 2) (.int 0)) .nil)) (.var 1))) (.cons (.asg (.sub (.var 2) (.int 0)) (.bin .fdiv (.bi .int (.cons (.ix (.var 2) (.int 0)) .nil)) (.var 1))) (.cons (.ife (.cmp .eq (.ix (.var 2) (.int 0)) (.int 0)) (.cons (.expr (.bm (.var 2) .pop (.cons (.int 0) .nil))) .nil) .nil) (.cons (.ret (.var 4)) .nil)))) .nil)
abbrev f37s3 : IS := (.asg (.nm 3) (.bin .mod (.bi .int (.cons (.bin .mul (.bin .add (.ix (.var 0) (.int 0)) (.bin .mul (.int 7919) (.ix (.var 0) (.int 1)))) (.int 48271)) .nil)) (.int 2147483647)))
abbrev f37s4 : IS := (.asg (.nm 3) (.bin .mod (.bi .int (.cons (.bin .mul (.var 3) (.bin .add (.bin .fdiv (.var 3) (.int 1009)) (.int 69621))) .nil)) (.int 2147483647)))
abbrev f37s5 : IS := (.asg (.nm 3) (.bin .mod (.bi .int (.cons (.bin .mul (.var 3) (.bin .add (.bin .fdiv (.var 3) (.int 2003)) (.int 40692))) .nil)) (.int 2147483399)))
abbrev f37s6 : IS := (.ret (.bin .mod (.bi .int (.cons (.bin .fdiv (.var 3) (.int 16)) .nil)) (.var 1)))
def f37 : FnD := { name := "_law_draw", N := ["pool", "many", "cells", "mixed", "digit"], np := 2, keep := false, top := true, body := (.cons f37s0 (.cons f37s1 (.cons f37s2 (.cons f37s3 (.cons f37s4 (.cons f37s5 (.cons f37s6 .nil))))))) }
abbrev f38b0 : ISs := (.cons (.expr (.bm (.var 3) .append (.cons (.bm (.var 2) .pop (.cons (.call 37 (.cons (.var 0) (.cons (.bi .len (.cons (.var 2) .nil)) .nil))) .nil)) .nil))) .nil)
abbrev f38s0 : IS := (.asg (.nm 2) (.thaw (.bi .list (.cons (.var 1) .nil))))
abbrev f38s1 : IS := (.asg (.nm 3) (.thaw (.lst .nil)))
abbrev f38s2 : IS := (.for_ (.nm 4) (.rng (.bi .len (.cons (.var 1) .nil))) f38b0)
abbrev f38s3 : IS := (.ret (.var 3))
def f38 : FnD := { name := "_law_mixed", N := ["pool", "things", "left", "put", "k"], np := 2, keep := false, top := true, body := (.cons f38s0 (.cons f38s1 (.cons f38s2 (.cons f38s3 .nil)))) }
abbrev f39b0 : ISs := (.cons (.asg (.nm 0) (.lst (.cons (.var 0) .nil))) .nil)
abbrev f39s0 : IS := (.asg (.nm 0) (.lst (.cons .non .nil)))
abbrev f39s1 : IS := (.for_ (.nm 1) (.rng (.int 35)) f39b0)
abbrev f39s2 : IS := (.ret (.var 0))
def f39 : FnD := { name := "_law_deep", N := ["thing", "turn"], np := 0, keep := false, top := true, body := (.cons f39s0 (.cons f39s1 (.cons f39s2 .nil))) }
abbrev f40s0 : IS := (.ret (.cmp .eq (.rep (.var 0)) (.rep (.var 1))))
def f40 : FnD := { name := "_law_is", N := ["told", "due"], np := 2, keep := false, top := true, body := (.cons f40s0 .nil) }
abbrev f41b0 : ISs := (.cons (.par [2, 3] (.cons (.var 3) (.cons (.bin .mod (.bi .int (.cons (.var 2) .nil)) (.var 3)) .nil))) .nil)
abbrev f41s0 : IS := (.par [2, 3] (.cons (.bi .abs (.cons (.var 0) .nil)) (.cons (.bi .abs (.cons (.var 1) .nil)) .nil)))
abbrev f41s1 : IS := (.whl (.cmp .gt (.var 3) (.int 0)) f41b0)
abbrev f41s2 : IS := (.asg (.nm 2) (.ifx (.cmp .gt (.var 1) (.int 0)) (.var 2) (.neg (.var 2))))
abbrev f41s3 : IS := (.ret (.tup (.cons (.bin .fdiv (.var 0) (.var 2)) (.cons (.bin .fdiv (.var 1) (.var 2)) .nil))))
def f41 : FnD := { name := "_law_low", N := ["top", "bottom", "one", "other"], np := 2, keep := false, top := true, body := (.cons f41s0 (.cons f41s1 (.cons f41s2 (.cons f41s3 .nil)))) }
abbrev f42s0 : IS := (.ret (.call 41 (.cons (.bin .add (.bin .mul (.ix (.var 0) (.int 0)) (.ix (.var 1) (.int 1))) (.bin .mul (.ix (.var 1) (.int 0)) (.ix (.var 0) (.int 1)))) (.cons (.bin .mul (.ix (.var 0) (.int 1)) (.ix (.var 1) (.int 1))) .nil))))
def f42 : FnD := { name := "_law_add", N := ["one", "other"], np := 2, keep := false, top := true, body := (.cons f42s0 .nil) }
abbrev f43s0 : IS := (.ret (.call 41 (.cons (.bin .mul (.ix (.var 0) (.int 0)) (.ix (.var 1) (.int 0))) (.cons (.bin .mul (.ix (.var 0) (.int 1)) (.ix (.var 1) (.int 1))) .nil))))
def f43 : FnD := { name := "_law_mul", N := ["one", "other"], np := 2, keep := false, top := true, body := (.cons f43s0 .nil) }
abbrev f44c0 : IE := .lc (.tup (.cons (.bi .int (.cons (.cmp .eq (.var 2) (.var 1)) .nil)) (.cons (.int 1) .nil))) [2] (.nm 2) (.rng (.var 0)) .no
abbrev f44s0 : IS := (.ret (.bi .tuple (.cons f44c0 .nil)))
def f44 : FnD := { name := "_law_unit", N := ["size", "at", "place"], np := 2, keep := false, top := true, body := (.cons f44s0 .nil) }
abbrev f45c0 : IE := .lc (.call 42 (.cons (.var 5) (.cons (.call 43 (.cons (.var 4) (.cons (.var 6) .nil))) .nil))) [5, 6] (.tup (.cons (.nm 5) (.cons (.nm 6) .nil))) (.zip (.var 1) (.var 3)) .no
abbrev f45b0 : ISs := (.cons (.ife (.cmp .ne (.ix (.ix (.var 1) (.var 2)) (.int 0)) (.int 0)) (.cons (.asg (.nm 4) (.call 41 (.cons (.bin .mul (.neg (.ix (.ix (.var 1) (.var 2)) (.int 0))) (.ix (.ix (.var 3) (.var 2)) (.int 1))) (.cons (.bin .mul (.ix (.ix (.var 1) (.var 2)) (.int 1)) (.ix (.ix (.var 3) (.var 2)) (.int 0))) .nil)))) (.cons (.asg (.nm 1) f45c0) .nil)) .nil) .nil)
abbrev f45s0 : IS := (.asg (.nm 1) (.bi .list (.cons (.var 1) .nil)))
abbrev f45s1 : IS := (.for_ (.tup (.cons (.nm 2) (.cons (.nm 3) .nil))) (.seq (.var 0)) f45b0)
abbrev f45s2 : IS := (.ret (.var 1))
def f45 : FnD := { name := "_law_left", N := ["found", "row", "lead", "known", "share", "one", "other"], np := 2, keep := false, top := true, body := (.cons f45s0 (.cons f45s1 (.cons f45s2 .nil))) }
abbrev f46c0 : IE := .lc (.var 5) [5] (.nm 5) (.rng (.bi .len (.cons (.var 3) .nil))) (.yes (.cmp .ne (.ix (.ix (.var 3) (.var 5)) (.int 0)) (.int 0)))
abbrev f46b0 : ISs := (.cons (.asg (.nm 3) (.call 45 (.cons (.var 1) (.cons (.var 2) .nil)))) (.cons (.asg (.nm 4) f46c0) (.cons (.ife (.cmp .gt (.bi .len (.cons (.var 4) .nil)) (.int 0)) (.cons (.expr (.bm (.var 1) .append (.cons (.tup (.cons (.ix (.var 4) (.int 0)) (.cons (.var 3) .nil))) .nil))) .nil) .nil) .nil)))
abbrev f46s0 : IS := (.asg (.nm 1) (.thaw (.lst .nil)))
abbrev f46s1 : IS := (.for_ (.nm 2) (.seq (.var 0)) f46b0)
abbrev f46s2 : IS := (.ret (.var 1))
def f46 : FnD := { name := "_law_steps", N := ["rows", "found", "row", "left", "places", "place"], np := 1, keep := false, top := true, body := (.cons f46s0 (.cons f46s1 (.cons f46s2 .nil))) }
abbrev f47s0 : IS := (.ret (.bi .len (.cons (.call 46 (.cons (.var 0) .nil)) .nil)))
def f47 : FnD := { name := "_law_rank", N := ["rows"], np := 1, keep := false, top := true, body := (.cons f47s0 .nil) }
abbrev f48s0 : IS := (.asg (.nm 1) (.lst (.cons (.tup (.cons (.int 0) (.cons (.int 1) .nil))) (.cons (.tup (.cons (.int 1) (.cons (.int 1) .nil))) (.cons (.tup (.cons (.neg (.int 1)) (.cons (.int 1) .nil))) (.cons (.tup (.cons (.int 2) (.cons (.int 1) .nil))) (.cons (.tup (.cons (.int 1) (.cons (.int 2) .nil))) (.cons (.tup (.cons (.neg (.int 2)) (.cons (.int 3) .nil))) (.cons (.tup (.cons (.int 3) (.cons (.int 1) .nil))) (.cons (.tup (.cons (.int 0) (.cons (.int 1) .nil))) (.cons (.tup (.cons (.int 1) (.cons (.int 1) .nil))) (.cons (.tup (.cons (.int 101) (.cons (.int 7) .nil))) .nil))))))))))))
abbrev f48s1 : IS := (.ret (.ix (.var 1) (.call 37 (.cons (.var 0) (.cons (.int 10) .nil)))))
def f48 : FnD := { name := "_law_number", N := ["pool", "some"], np := 1, keep := false, top := true, body := (.cons f48s0 (.cons f48s1 .nil)) }
abbrev f49c0 : IE := .lc (.call 48 (.cons (.var 0) .nil)) [5] (.nm 5) (.rng (.var 1)) .no
abbrev f49s0 : IS := (.asg (.nm 3) (.call 37 (.cons (.var 0) (.cons (.int 6) .nil))))
abbrev f49s1 : IS := (.ife (.cmp .eq (.var 3) (.int 0)) (.cons (.ret (.call 44 (.cons (.var 1) (.cons (.var 2) .nil)))) .nil) .nil)
abbrev f49s2 : IS := (.asg (.nm 4) (.thaw (.bi .list (.cons (.call 44 (.cons (.var 1) (.cons (.call 37 (.cons (.var 0) (.cons (.var 1) .nil))) .nil))) .nil))))
abbrev f49s3 : IS := (.ife (.cmp .gt (.var 3) (.int 2)) (.cons (.asg (.sub (.var 4) (.call 37 (.cons (.var 0) (.cons (.var 1) .nil)))) (.call 48 (.cons (.var 0) .nil))) .nil) .nil)
abbrev f49s4 : IS := (.ife (.cmp .eq (.var 3) (.int 5)) (.cons (.asg (.nm 4) (.thaw (f49c0))) .nil) .nil)
abbrev f49s5 : IS := (.ret (.bi .tuple (.cons (.var 4) .nil)))
def f49 : FnD := { name := "_law_some_row", N := ["pool", "many", "cell", "kind", "row", "place"], np := 3, keep := false, top := true, body := (.cons f49s0 (.cons f49s1 (.cons f49s2 (.cons f49s3 (.cons f49s4 (.cons f49s5 .nil)))))) }
abbrev f50c0 : IE := .lc (.call 49 (.cons (.var 0) (.cons (.var 2) (.cons (.var 6) .nil)))) [6] (.nm 6) (.rng (.var 2)) .no
abbrev f50c1 : IE := .lc (.call 44 (.cons (.var 2) (.cons (.var 7) .nil))) [7] (.nm 7) (.seq (.call 38 (.cons (.var 0) (.cons (.lrng (.var 2)) .nil)))) .no
abbrev f50c2 : IE := .lc (.call 44 (.cons (.var 2) (.cons (.call 37 (.cons (.var 0) (.cons (.var 2) .nil))) .nil))) [6] (.nm 6) (.rng (.var 2)) .no
abbrev f50c3 : IE := .lc (.ifx (.cmp .eq (.call 37 (.cons (.var 0) (.cons (.int 5) .nil))) (.int 0)) .non (.var 8)) [8] (.nm 8) (.seq (.var 4)) .no
abbrev f50c4 : IE := .lc (.ifx (.and (.cons (.cmp .inn (.var 6) (.var 5)) (.cons (.cmp .gt (.call 37 (.cons (.var 0) (.cons (.int 4) .nil))) (.int 0)) .nil))) (.call 44 (.cons (.var 2) (.cons (.var 6) .nil))) (.ix (.var 4) (.var 6))) [6] (.nm 6) (.rng (.var 2)) .no
abbrev f50c5 : IE := .lc (.var 6) [6] (.nm 6) (.rng (.var 2)) (.yes (.cmp .eq (.call 37 (.cons (.var 0) (.cons (.int 3) .nil))) (.int 0)))
abbrev f50s0 : IS := (.asg (.nm 2) (.bin .add (.int 1) (.call 37 (.cons (.var 0) (.cons (.var 1) .nil)))))
abbrev f50s1 : IS := (.asg (.nm 3) (.call 37 (.cons (.var 0) (.cons (.int 5) .nil))))
abbrev f50s2 : IS := (.asg (.nm 4) f50c0)
abbrev f50s3 : IS := (.ife (.cmp .eq (.var 3) (.int 0)) (.cons (.asg (.nm 4) f50c1) .nil) .nil)
abbrev f50s4 : IS := (.ife (.cmp .eq (.var 3) (.int 1)) (.cons (.asg (.nm 4) f50c2) .nil) .nil)
abbrev f50s5 : IS := (.ife (.cmp .gt (.var 3) (.int 2)) (.cons (.asg (.nm 4) f50c3) .nil) .nil)
abbrev f50s6 : IS := (.asg (.nm 5) (.lst .nil))
abbrev f50s7 : IS := (.ife (.cmp .eq (.call 37 (.cons (.var 0) (.cons (.int 4) .nil))) (.int 0)) (.cons (.asg (.nm 5) f50c5) (.cons (.asg (.nm 4) f50c4) .nil)) .nil)
abbrev f50s8 : IS := (.ret (.tup (.cons (.bi .tuple (.cons (.var 4) .nil)) (.cons (.bi .tuple (.cons (.var 5) .nil)) (.cons (.ix (.lst (.cons (.int 0) (.cons (.int 0) (.cons (.int 0) (.cons (.int 1) (.cons (.int 2) .nil)))))) (.call 37 (.cons (.var 0) (.cons (.int 5) .nil)))) .nil)))))
def f50 : FnD := { name := "_law_wish", N := ["pool", "most", "many", "kind", "rows", "locked", "cell", "source", "row"], np := 2, keep := false, top := true, body := (.cons f50s0 (.cons f50s1 (.cons f50s2 (.cons f50s3 (.cons f50s4 (.cons f50s5 (.cons f50s6 (.cons f50s7 (.cons f50s8 .nil))))))))) }
abbrev f51s0 : IS := (.ret (.mk 5 (.cons (.ix (.var 0) (.int 0)) (.cons (.ix (.var 0) (.int 1)) (.cons (.ix (.var 0) (.int 2)) .nil)))))
def f51 : FnD := { name := "_law_made_wish", N := ["spec"], np := 1, keep := false, top := true, body := (.cons f51s0 .nil) }
abbrev f52s0 : IS := (.ret (.bin .add (.bi .len (.cons (.ix (.var 0) (.int 0)) .nil)) (.ix (.var 0) (.int 2))))
def f52 : FnD := { name := "_law_all_cells", N := ["spec"], np := 1, keep := false, top := true, body := (.cons f52s0 .nil) }
abbrev f53b0 : ISs := (.cons (.asg (.nm 5) (.and (.cons (.cmp .lt (.var 4) (.bi .len (.cons (.ix (.var 0) (.int 0)) .nil))) (.cons (.isi (.ix (.ix (.var 0) (.int 0)) (.var 4)) [.tuple]) .nil)))) (.cons (.asg (.nm 6) (.str [97, 109, 105, 100])) (.cons (.ife (.cmp .nin (.var 4) (.sl (.var 1) .no (.yes (.var 2)))) (.cons (.asg (.nm 6) (.str [110, 111, 116, 32, 98, 101, 103, 117, 110])) .nil) (.cons (.ife (.and (.cons (.var 5) (.cons (.cmp .nin (.var 4) (.sl (.var 1) (.yes (.var 2)) .no)) .nil))) (.cons (.asg (.nm 6) (.str [100, 111, 110, 101])) .nil) .nil) .nil)) (.cons (.expr (.bm (.var 3) .append (.cons (.var 6) .nil))) .nil))))
abbrev f53s0 : IS := (.asg (.nm 3) (.thaw (.lst .nil)))
abbrev f53s1 : IS := (.for_ (.nm 4) (.rng (.call 52 (.cons (.var 0) .nil))) f53b0)
abbrev f53s2 : IS := (.ret (.bi .tuple (.cons (.var 3) .nil)))
def f53 : FnD := { name := "_law_stages", N := ["spec", "order", "moment", "found", "cell", "wished", "word"], np := 3, keep := false, top := true, body := (.cons f53s0 (.cons f53s1 (.cons f53s2 .nil))) }
abbrev f54c0 : IE := .lc (.call 44 (.cons (.var 2) (.cons (.var 4) .nil))) [4] (.nm 4) (.rng (.var 2)) (.yes (.cmp .eq (.ix (.var 1) (.var 4)) (.str [110, 111, 116, 32, 98, 101, 103, 117, 110])))
abbrev f54c1 : IE := .lc (.ix (.ix (.var 0) (.int 0)) (.var 4)) [4] (.nm 4) (.rng (.var 2)) (.yes (.cmp .eq (.ix (.var 1) (.var 4)) (.str [100, 111, 110, 101])))
abbrev f54s0 : IS := (.asg (.nm 2) (.bi .len (.cons (.ix (.var 0) (.int 0)) .nil)))
abbrev f54s1 : IS := (.asg (.nm 3) f54c0)
abbrev f54s2 : IS := (.ret (.bin .add (.var 3) f54c1))
def f54 : FnD := { name := "_law_safe", N := ["spec", "words", "many", "found", "cell"], np := 2, keep := false, top := true, body := (.cons f54s0 (.cons f54s1 (.cons f54s2 .nil))) }
abbrev f55c0 : IE := .lc (.var 1) [1] (.nm 1) (.rng (.bi .len (.cons (.ix (.var 0) (.int 0)) .nil))) (.yes (.isi (.ix (.ix (.var 0) (.int 0)) (.var 1)) [.tuple]))
abbrev f55s0 : IS := (.ret f55c0)
def f55 : FnD := { name := "_law_wished", N := ["spec", "cell"], np := 1, keep := false, top := true, body := (.cons f55s0 .nil) }
abbrev f56c0 : IE := .lc (.ix (.ix (.var 0) (.int 0)) (.var 4)) [4] (.nm 4) (.seq (.call 55 (.cons (.var 0) .nil))) .no
abbrev f56c1 : IE := .lc (.var 5) [5] (.nm 5) (.seq (.var 1)) (.yes (.cmp .eq (.var 5) (.str [97, 109, 105, 100])))
abbrev f56s0 : IS := (.asg (.nm 2) (.call 54 (.cons (.var 0) (.cons (.var 1) .nil))))
abbrev f56s1 : IS := (.asg (.nm 3) f56c0)
abbrev f56s2 : IS := (.ret (.tup (.cons (.bin .sub (.call 47 (.cons (.bin .add (.var 2) (.var 3)) .nil)) (.call 47 (.cons (.var 2) .nil))) (.cons (.bi .len (.cons f56c1 .nil)) .nil))))
def f56 : FnD := { name := "_law_lack", N := ["spec", "words", "safe", "wished", "cell", "word"], np := 2, keep := false, top := true, body := (.cons f56s0 (.cons f56s1 (.cons f56s2 .nil))) }
abbrev f57c0 : IE := .lc (.var 6) [6] (.nm 6) (.seq (.call 38 (.cons (.var 0) (.cons (.lrng (.var 2)) .nil)))) (.yes (.cmp .nin (.var 6) (.ix (.var 1) (.int 1))))
abbrev f57c1 : IE := .lc (.call 37 (.cons (.var 0) (.cons (.var 2) .nil))) [7] (.nm 7) (.rng (.call 37 (.cons (.var 0) (.cons (.int 9) .nil)))) .no
abbrev f57c2 : IE := .lc (.var 6) [6] (.nm 6) (.seq (.var 4)) (.yes (.cmp .gt (.call 37 (.cons (.var 0) (.cons (.int 6) .nil))) (.int 0)))
abbrev f57s0 : IS := (.asg (.nm 2) (.call 52 (.cons (.var 1) .nil)))
abbrev f57s1 : IS := (.asg (.nm 3) f57c0)
abbrev f57s2 : IS := (.asg (.nm 4) (.bin .add (.var 3) (.sl (.rev (.var 3)) (.yes (.int 1)) .no)))
abbrev f57s3 : IS := (.asg (.nm 5) (.call 37 (.cons (.var 0) (.cons (.int 5) .nil))))
abbrev f57s4 : IS := (.ife (.cmp .eq (.var 5) (.int 0)) (.cons (.asg (.nm 4) f57c1) .nil) .nil)
abbrev f57s5 : IS := (.ife (.cmp .eq (.var 5) (.int 1)) (.cons (.asg (.nm 4) f57c2) .nil) .nil)
abbrev f57s6 : IS := (.ife (.cmp .eq (.var 5) (.int 2)) (.cons (.asg (.nm 4) (.bin .add (.var 3) (.sl (.var 3) .no (.yes (.call 37 (.cons (.var 0) (.cons (.bin .add (.bi .len (.cons (.var 3) .nil)) (.int 1)) .nil))))))) .nil) .nil)
abbrev f57s7 : IS := (.ife (.cmp .eq (.var 5) (.int 3)) (.cons (.asg (.nm 4) (.bin .add (.sl (.var 3) .no (.yes (.int 1))) (.rev (.var 3)))) .nil) .nil)
abbrev f57s8 : IS := (.ret (.bi .tuple (.cons (.var 4) .nil)))
def f57 : FnD := { name := "_law_order", N := ["pool", "spec", "many", "cells", "order", "kind", "cell", "turn"], np := 2, keep := false, top := true, body := (.cons f57s0 (.cons f57s1 (.cons f57s2 (.cons f57s3 (.cons f57s4 (.cons f57s5 (.cons f57s6 (.cons f57s7 (.cons f57s8 .nil))))))))) }
abbrev f58s0 : IS := (.ret (.and (.cons (.isi (.var 0) [.int]) (.cons (.not (.isi (.var 0) [.bool])) (.cons (.chain .le .le (.var 1) (.var 0) (.var 2)) .nil)))))
def f58 : FnD := { name := "_law_is_int", N := ["thing", "least", "most"], np := 3, keep := false, top := true, body := (.cons f58s0 .nil) }
abbrev f59c0 : IE := .lc (.call 58 (.cons (.var 2) (.cons (.int 0) (.cons (.bin .sub (.call 52 (.cons (.var 0) .nil)) (.int 1)) .nil)))) [2] (.nm 2) (.seq (.var 1)) .no
abbrev f59s0 : IS := (.ife (.or (.cons (.not (.isi (.var 1) [.tuple])) (.cons (.cmp .gt (.bi .len (.cons (.var 1) .nil)) (.int 60)) .nil))) (.cons (.ret (.bl false)) .nil) .nil)
abbrev f59s1 : IS := (.ret (.bi .all (.cons f59c0 .nil)))
def f59 : FnD := { name := "_law_is_order", N := ["spec", "thing", "cell"], np := 2, keep := false, top := true, body := (.cons f59s0 (.cons f59s1 .nil)) }
abbrev f60s0 : IS := (.asg (.nm 4) (.str [108, 101, 116]))
abbrev f60s1 : IS := (.tryx (.ifb (.cmp .eq (.var 0) (.int 0)) (.one (.expr (.call 34 (.cons (.var 1) (.cons (.var 2) (.cons (.var 3) .nil))))) .nil) (.one (.expr (.call 35 (.cons (.var 1) (.cons (.var 2) (.cons (.var 3) .nil))))) .nil) .nil) 0 5 (.cons (.asg (.nm 6) (.lst (.cons (.isx (.var 5) (.cls 2)) (.cons (.isx (.var 5) (.cls 3)) .nil)))) (.cons (.asg (.nm 4) (.ifx (.cmpd .eq (.bm (.var 6) .count (.cons (.bl true) .nil)) (.int 1)) (.ix (.lst (.cons (.str [111, 114, 100, 101, 114]) (.cons (.str [109, 111, 109, 101, 110, 116]) .nil))) (.bm (.var 6) .index (.cons (.bl true) .nil))) (.str [111, 116, 104, 101, 114]))) .nil)))
abbrev f60s2 : IS := (.ret (.var 4))
def f60 : FnD := { name := "_law_word", N := ["which", "wish", "order", "moment", "word", "e", "flags"], np := 4, keep := false, top := true, body := (.cons f60s0 (.cons f60s1 (.cons f60s2 .nil))) }
abbrev f61c0 : IE := .lc (.call 60 (.cons (.var 9) (.cons (.var 2) (.cons (.var 6) (.cons (.var 7) .nil))))) [9] (.nm 9) (.rng (.int 2)) .no
abbrev f61s0 : IS := (.asg (.nm 4) (.call 52 (.cons (.var 1) .nil)))
abbrev f61s1 : IS := (.asg (.nm 5) (.lst (.cons (.var 3) (.cons (.bin .add (.var 3) (.tup (.cons (.var 4) .nil))) (.cons (.bin .add (.var 3) (.tup (.cons (.neg (.int 1)) .nil))) (.cons (.bin .add (.var 3) (.tup (.cons (.bl true) .nil))) (.cons (.bi .list (.cons (.var 3) .nil)) (.cons .non (.cons (.bin .mul (.tup (.cons (.int 0) .nil)) (.int 60)) (.cons (.bin .mul (.tup (.cons (.int 0) .nil)) (.int 61)) (.cons (.str [48]) (.cons .dic0 (.cons (.call 39 .nil) (.cons (.tup (.cons (.tup (.cons (.int 0) .nil)) .nil)) .nil))))))))))))))
abbrev f61s2 : IS := (.asg (.nm 6) (.ix (.var 5) (.call 37 (.cons (.var 0) (.cons (.int 12) .nil)))))
abbrev f61s3 : IS := (.asg (.nm 7) (.ix (.lst (.cons (.int 0) (.cons (.int 1) (.cons (.bi .len (.cons (.var 3) .nil)) (.cons (.bin .add (.bi .len (.cons (.var 3) .nil)) (.int 1)) (.cons (.neg (.int 1)) (.cons (.bl true) (.cons .non (.cons (.str [48]) (.cons (.tup (.cons (.int 0) .nil)) (.cons (.bin .pow (.int 10) (.int 29)) (.cons (.call 39 .nil) (.cons (.int 60) .nil))))))))))))) (.call 37 (.cons (.var 0) (.cons (.int 12) .nil)))))
abbrev f61s4 : IS := (.asg (.nm 8) (.str [111, 114, 100, 101, 114]))
abbrev f61s5 : IS := (.ife (.call 59 (.cons (.var 1) (.cons (.var 6) .nil))) (.cons (.asg (.nm 8) (.ifx (.call 58 (.cons (.var 7) (.cons (.int 0) (.cons (.bi .len (.cons (.var 6) .nil)) .nil)))) (.str [108, 101, 116]) (.str [109, 111, 109, 101, 110, 116]))) .nil) .nil)
abbrev f61s6 : IS := (.ret (.cmp .eq f61c0 (.lst (.cons (.var 8) (.cons (.var 8) .nil)))))
def f61 : FnD := { name := "_law_refused_right", N := ["pool", "spec", "wish", "order", "many", "odd", "thing", "moment", "due", "which"], np := 4, keep := false, top := true, body := (.cons f61s0 (.cons f61s1 (.cons f61s2 (.cons f61s3 (.cons f61s4 (.cons f61s5 (.cons f61s6 .nil))))))) }
abbrev f62b0 : ISs := (.cons (.ife (.not (.call 61 (.cons (.var 1) (.cons (.var 3) (.cons (.var 4) (.cons (.var 5) .nil)))))) (.cons (.ret (.bl false)) .nil) .nil) .nil)
abbrev f62b1 : ISs := (.cons (.asg (.nm 8) (.call 53 (.cons (.var 3) (.cons (.var 5) (.cons (.var 6) .nil))))) (.cons (.ife (.or (.cons (.not (.call 40 (.cons (.call 34 (.cons (.var 4) (.cons (.var 5) (.cons (.var 6) .nil)))) (.cons (.var 8) .nil)))) (.cons (.not (.call 40 (.cons (.call 35 (.cons (.var 4) (.cons (.var 5) (.cons (.var 6) .nil)))) (.cons (.call 56 (.cons (.var 3) (.cons (.var 8) .nil))) .nil)))) .nil))) (.cons (.ret (.bl false)) .nil) .nil) .nil))
abbrev f62c0 : IE := .lc (.call 37 (.cons (.var 1) (.cons (.call 52 (.cons (.var 3) .nil)) .nil))) [9] (.nm 9) (.rng (.bin .add (.int 55) (.call 37 (.cons (.var 1) (.cons (.int 6) .nil))))) .no
abbrev f62b2 : ISs := (.cons (.asg (.nm 3) (.call 50 (.cons (.var 1) (.cons (.int 5) .nil)))) (.cons (.asg (.nm 4) (.call 51 (.cons (.var 3) .nil))) (.cons (.asg (.nm 5) (.call 57 (.cons (.var 1) (.cons (.var 3) .nil)))) (.cons (.ife (.and (.cons (.cmp .eq (.var 2) (.int 0)) (.cons (.cmp .eq (.call 37 (.cons (.var 1) (.cons (.int 24) .nil))) (.int 0)) .nil))) (.cons (.asg (.nm 5) (.bi .tuple (.cons f62c0 .nil))) .nil) .nil) (.cons (.for_ (.nm 6) (.rng (.bin .add (.bi .len (.cons (.var 5) .nil)) (.int 1))) f62b1) (.cons (.for_ (.nm 7) (.rng (.int 3)) f62b0) .nil))))))
abbrev f62s0 : IS := (.asg (.nm 1) (.call 36 (.cons (.var 0) .nil)))
abbrev f62s1 : IS := (.for_ (.nm 2) (.rng (.int 3)) f62b2)
abbrev f62s2 : IS := (.ret (.bl true))
def f62 : FnD := { name := "law", N := ["script", "pool", "turn", "spec", "wish", "order", "moment", "again", "words", "place"], np := 1, keep := false, top := true, body := (.cons f62s0 (.cons f62s1 (.cons f62s2 .nil))) }
def P : Prog := { fns := [f0, f1, f2, f3, f4, f5, f6, f7, f8, f9, f10, f11, f12, f13, f14, f15, f16, f17, f18, f19, f20, f21, f22, f23, f24, f25, f26, f27, f28, f29, f30, f31, f32, f33, f34, f35, f36, f37, f38, f39, f40, f41, f42, f43, f44, f45, f46, f47, f48, f49, f50, f51, f52, f53, f54, f55, f56, f57, f58, f59, f60, f61, f62], cls := [{ name := "CellError", init := none, meths := [], frozen := false, sups := [0], exc := some [], xin := none }, { name := "BadWish", init := none, meths := [], frozen := false, sups := [1, 0], exc := some [1], xin := some 1 }, { name := "NoOrder", init := none, meths := [], frozen := false, sups := [2, 0], exc := some [], xin := none }, { name := "NoMoment", init := none, meths := [], frozen := false, sups := [3, 0], exc := some [], xin := none }, { name := "Steps", init := some 14, meths := [(3, 16), (8, 17), (4, 15), (9, 18)], frozen := false, sups := [4], exc := none, xin := none }, { name := "Wish", init := some 20, meths := [(0, 21)], frozen := true, sups := [5], exc := none, xin := none }], consts := [(.tup [.int 0, .int 1]), (.tup [.int 1, .int 1]), (.int 6), (.int 2), (.int 60), (.str [110, 111, 116, 32, 98, 101, 103, 117, 110]), (.str [100, 111, 110, 101]), (.str [97, 109, 105, 100])], cnm := ["NOUGHT", "ONE", "MOST_CELLS", "MOST_SPARE", "MOST_ORDER", "NOT_BEGUN", "DONE", "AMID"], flds := [1, 2, 5, 6, 7], tabs := [], tnm := [] }
def names : List Str := ["__eq__", "part", "known", "add", "left_of", "rows", "locked", "spare", "holds", "rank"]
def lawId : Nat := 62
end Ir
namespace Dv
open RI PySem PySem.Spec PyProof.Rows L2
def top (i : Nat) : Stmt := PySem.Challenge.pw_oncetwice_k07_whole_stages_and_lacks.main.body.getD i (.Pass ⟨0, 0, 0, 0⟩)
def d0 : He.DefD := ⟨("_wall", none), "_wall", "_wall", defArgs (top 0), defBody (top 0), defScope (top 0), [], []⟩
theorem B0 : FnAll Ir.P Ir.names Ir.f0 d0 where
  body := fun G hnm Pm w K mg base fa cdv A outer s H E call fu k S hk hp => (s_cons (s_while hp (t_val S e_bl)
  (s_cons s_pass
  s_nil))
  s_nil)
  sc := ⟨rfl, rfl, rfl, by decide +kernel, rfl, by decide +kernel, by decide +kernel⟩
  bd := fun _ _ _ _ _ _ us hl => match us, hl with | [_], _ => rfl
  dfl := ⟨rfl, rfl⟩
  le := by decide
def d1 : He.DefD := ⟨("BadWish", some "__init__"), "__init__", "BadWish.__init__", defArgs (inClass (top 3) 0), defBody (inClass (top 3) 0), defScope (inClass (top 3) 0), [], []⟩
theorem B1 : FnAll Ir.P Ir.names Ir.f1 d1 where
  body := fun G hnm Pm w K mg base fa cdv A outer s H E call fu k S hk hp => (s_cons (s_fld S rfl hnm rfl (q_var rfl rfl rfl) (q_var rfl rfl rfl))
  s_nil)
  sc := ⟨rfl, rfl, rfl, by decide +kernel, rfl, by decide +kernel, by decide +kernel⟩
  bd := fun _ _ _ _ _ _ us hl => match us, hl with | [_, _], _ => rfl
  dfl := ⟨rfl, rfl⟩
  le := by decide
def d2 : He.DefD := ⟨("is_integer", none), "is_integer", "is_integer", defArgs (top 7), defBody (top 7), defScope (top 7), [], []⟩
theorem B2 : FnAll Ir.P Ir.names Ir.f2 d2 where
  body := fun G hnm Pm w K mg base fa cdv A outer s H E call fu k S hk hp => (s_cons (s_ret (e_and (e_and2 S (e_isi S rfl (q_var rfl rfl rfl) (ty_b S rfl)) (e_one (e_not S (e_isi S rfl (q_var rfl rfl rfl) (ty_b S rfl)))))))
  s_nil)
  sc := ⟨rfl, rfl, rfl, by decide +kernel, rfl, by decide +kernel, by decide +kernel⟩
  bd := fun _ _ _ _ _ _ us hl => match us, hl with | [_], _ => rfl
  dfl := ⟨rfl, rfl⟩
  le := by decide
def d3 : He.DefD := ⟨("is_within", none), "is_within", "is_within", defArgs (top 8), defBody (top 8), defScope (top 8), [], []⟩
theorem B3 : FnAll Ir.P Ir.names Ir.f3 d3 where
  body := fun G hnm Pm w K mg base fa cdv A outer s H E call fu k S hk hp => (s_cons (s_ret (e_and (e_and2 S (e_call S rfl rfl rfl rfl rfl rfl (es_cons (q_var rfl rfl rfl) es_nil)) (e_one (e_chain S (q_var rfl rfl rfl) (q_var rfl rfl rfl) (q_var rfl rfl rfl))))))
  s_nil)
  sc := ⟨rfl, rfl, rfl, by decide +kernel, rfl, by decide +kernel, by decide +kernel⟩
  bd := fun _ _ _ _ _ _ us hl => match us, hl with | [_, _, _], _ => rfl
  dfl := ⟨rfl, rfl⟩
  le := by decide
def d4 : He.DefD := ⟨("is_pair", none), "is_pair", "is_pair", defArgs (top 9), defBody (top 9), defScope (top 9), [], []⟩
theorem B4 : FnAll Ir.P Ir.names Ir.f4 d4 where
  body := fun G hnm Pm w K mg base fa cdv A outer s H E call fu k S hk hp => (s_cons (s_ret (e_and (e_and2 S (e_isi S rfl (q_var rfl rfl rfl) (ty_b S rfl)) (e_one (e_eq S rfl (e_biB S rfl rfl (ha := (es_cons (q_var rfl rfl rfl) es_nil))) e_int)))))
  s_nil)
  sc := ⟨rfl, rfl, rfl, by decide +kernel, rfl, by decide +kernel, by decide +kernel⟩
  bd := fun _ _ _ _ _ _ us hl => match us, hl with | [_], _ => rfl
  dfl := ⟨rfl, rfl⟩
  le := by decide
def d5 : He.DefD := ⟨("is_sized", none), "is_sized", "is_sized", defArgs (top 10), defBody (top 10), defScope (top 10), [], []⟩
theorem B5 : FnAll Ir.P Ir.names Ir.f5 d5 where
  body := fun G hnm Pm w K mg base fa cdv A outer s H E call fu k S hk hp => (s_cons (s_ret (e_and (e_and2 S (e_isi S rfl (q_var rfl rfl rfl) (ty_b S rfl)) (e_one (e_chain S (q_var rfl rfl rfl) (e_biB S rfl rfl (ha := (es_cons (q_var rfl rfl rfl) es_nil))) (q_var rfl rfl rfl))))))
  s_nil)
  sc := ⟨rfl, rfl, rfl, by decide +kernel, rfl, by decide +kernel, by decide +kernel⟩
  bd := fun _ _ _ _ _ _ us hl => match us, hl with | [_, _, _], _ => rfl
  dfl := ⟨rfl, rfl⟩
  le := by decide
def d6 : He.DefD := ⟨("is_lot", none), "is_lot", "is_lot", defArgs (top 11), defBody (top 11), defScope (top 11), [], []⟩
theorem B6 : FnAll Ir.P Ir.names Ir.f6 d6 where
  body := fun G hnm Pm w K mg base fa cdv A outer s H E call fu k S hk hp => (s_cons (s_if (t_or (w_or (t_not (t_val S (e_isi S rfl (q_var rfl rfl rfl) (ty_b S rfl)))) (w_oneO (t_not (t_val S (e_biB S rfl rfl (ha := (es_cons (e_lc S rfl (blkOk_by (own := [("item", 4)]) (by show blkC Ir.f6.N d6.scope _ _ = true; decide +kernel)) rfl (i_seq S (q_var rfl rfl rfl)) (fun _ _ _ _ _ S => (q_nm S rfl rfl rfl)) (fun _ _ _ _ _ S => c_none) (fun _ _ _ _ _ S => (e_call S rfl rfl rfl rfl rfl rfl (es_cons (q_var rfl rfl rfl) (es_cons e_int (es_cons (e_bin S (q_var rfl rfl rfl) e_int) es_nil)))))) es_nil))))))))
  (s_cons (s_ret e_bl)
  s_nil)
  s_nil)
  (s_cons (s_ret (e_biB S rfl rfl (ha := (es_cons (e_lc S rfl (blkOk_by (own := [("one", 2), ("other", 3)]) (by show blkC Ir.f6.N d6.scope _ _ = true; decide +kernel)) rfl (i_zip S rfl (q_var rfl rfl rfl) (e_sl S (q_var rfl rfl rfl) (o_some e_int) o_none)) (fun _ _ _ _ _ S => (g_tup S rfl (gs_cons (q_nm S rfl rfl rfl) (gs_cons (q_nm S rfl rfl rfl) gs_nil)))) (fun _ _ _ _ _ S => c_none) (fun _ _ _ _ _ S => (e_cmp S (q_var rfl rfl rfl) (q_var rfl rfl rfl)))) es_nil))))
  s_nil))
  sc := ⟨rfl, rfl, rfl, by decide +kernel, rfl, by decide +kernel, by decide +kernel⟩
  bd := fun _ _ _ _ _ _ us hl => match us, hl with | [_, _], _ => rfl
  dfl := ⟨rfl, rfl⟩
  le := by decide
def d7 : He.DefD := ⟨("divisor", none), "divisor", "divisor", defArgs (top 15), defBody (top 15), defScope (top 15), [], []⟩
theorem B7 : FnAll Ir.P Ir.names Ir.f7 d7 where
  body := fun G hnm Pm w K mg base fa cdv A outer s H E call fu k S hk hp => (s_cons (s_par S rfl rfl rfl (es_cons (e_biB S rfl rfl (ha := (es_cons (q_var rfl rfl rfl) es_nil))) (es_cons (e_biB S rfl rfl (ha := (es_cons (q_var rfl rfl rfl) es_nil))) es_nil)))
  (s_cons (s_while hp (t_eq S rfl (q_var rfl rfl rfl) e_int)
  (s_cons (s_par S rfl rfl rfl (es_cons (q_var rfl rfl rfl) (es_cons (e_bin S (q_var rfl rfl rfl) (q_var rfl rfl rfl)) es_nil)))
  s_nil))
  (s_cons (s_ret (q_var rfl rfl rfl))
  s_nil)))
  sc := ⟨rfl, rfl, rfl, by decide +kernel, rfl, by decide +kernel, by decide +kernel⟩
  bd := fun _ _ _ _ _ _ us hl => match us, hl with | [_, _], _ => rfl
  dfl := ⟨rfl, rfl⟩
  le := by decide
def d8 : He.DefD := ⟨("is_number", none), "is_number", "is_number", defArgs (top 16), defBody (top 16), defScope (top 16), [], []⟩
theorem B8 : FnAll Ir.P Ir.names Ir.f8 d8 where
  body := fun G hnm Pm w K mg base fa cdv A outer s H E call fu k S hk hp => (s_cons (s_if (t_or (w_or (t_not (t_val S (e_call S rfl rfl rfl rfl rfl rfl (es_cons (q_var rfl rfl rfl) es_nil)))) (w_or (t_not (t_val S (e_call S rfl rfl rfl rfl rfl rfl (es_cons (e_ix S (q_var rfl rfl rfl) e_int) es_nil)))) (w_oneO (t_not (t_val S (e_call S rfl rfl rfl rfl rfl rfl (es_cons (e_ix S (q_var rfl rfl rfl) e_int) es_nil))))))))
  (s_cons (s_ret e_bl)
  s_nil)
  s_nil)
  (s_cons (s_ret (e_and (e_and2 S (e_cmp S (e_ix S (q_var rfl rfl rfl) e_int) e_int) (e_one (e_eq S rfl (e_call S rfl rfl rfl rfl rfl rfl (es_cons (e_ix S (q_var rfl rfl rfl) e_int) (es_cons (e_ix S (q_var rfl rfl rfl) e_int) es_nil))) e_int)))))
  s_nil))
  sc := ⟨rfl, rfl, rfl, by decide +kernel, rfl, by decide +kernel, by decide +kernel⟩
  bd := fun _ _ _ _ _ _ us hl => match us, hl with | [_], _ => rfl
  dfl := ⟨rfl, rfl⟩
  le := by decide
def d9 : He.DefD := ⟨("is_row", none), "is_row", "is_row", defArgs (top 17), defBody (top 17), defScope (top 17), [], []⟩
theorem B9 : FnAll Ir.P Ir.names Ir.f9 d9 where
  body := fun G hnm Pm w K mg base fa cdv A outer s H E call fu k S hk hp => (s_cons (s_ret (e_and (e_and2 S (e_isi S rfl (q_var rfl rfl rfl) (ty_b S rfl)) (e_and2 S (e_eq S rfl (e_biB S rfl rfl (ha := (es_cons (q_var rfl rfl rfl) es_nil))) (q_var rfl rfl rfl)) (e_one (e_biB S rfl rfl (ha := (es_cons (e_lc S rfl (blkOk_by (own := [("item", 2)]) (by show blkC Ir.f9.N d9.scope _ _ = true; decide +kernel)) rfl (i_seq S (q_var rfl rfl rfl)) (fun _ _ _ _ _ S => (q_nm S rfl rfl rfl)) (fun _ _ _ _ _ S => c_none) (fun _ _ _ _ _ S => (e_call S rfl rfl rfl rfl rfl rfl (es_cons (q_var rfl rfl rfl) es_nil)))) es_nil))))))))
  s_nil)
  sc := ⟨rfl, rfl, rfl, by decide +kernel, rfl, by decide +kernel, by decide +kernel⟩
  bd := fun _ _ _ _ _ _ us hl => match us, hl with | [_, _], _ => rfl
  dfl := ⟨rfl, rfl⟩
  le := by decide
def d10 : He.DefD := ⟨("unit_row", none), "unit_row", "unit_row", defArgs (top 18), defBody (top 18), defScope (top 18), [], []⟩
theorem B10 : FnAll Ir.P Ir.names Ir.f10 d10 where
  body := fun G hnm Pm w K mg base fa cdv A outer s H E call fu k S hk hp => (s_cons (s_ret (e_biT S rfl rfl (ha := (es_cons (e_lc S rfl (blkOk_by (own := [("place", 2)]) (by show blkC Ir.f10.N d10.scope _ _ = true; decide +kernel)) rfl (i_rng S rfl (q_var rfl rfl rfl)) (fun _ _ _ _ _ S => (q_nm S rfl rfl rfl)) (fun _ _ _ _ _ S => c_none) (fun _ _ _ _ _ S => (e_ifx (t_eq S rfl (q_var rfl rfl rfl) (q_var rfl rfl rfl)) (e_glob S rfl rfl rfl) (e_glob S rfl rfl rfl)))) es_nil))))
  s_nil)
  sc := ⟨rfl, rfl, rfl, by decide +kernel, rfl, by decide +kernel, by decide +kernel⟩
  bd := fun _ _ _ _ _ _ us hl => match us, hl with | [_, _], _ => rfl
  dfl := ⟨rfl, rfl⟩
  le := by decide
def d11 : He.DefD := ⟨("whole", none), "whole", "whole", defArgs (top 20), defBody (top 20), defScope (top 20), [], []⟩
theorem B11 : FnAll Ir.P Ir.names Ir.f11 d11 where
  body := fun G hnm Pm w K mg base fa cdv A outer s H E call fu k S hk hp => (s_cons (q_set S rfl rfl rfl e_int rfl)
  (s_cons (s_for S rfl hp (i_seq S (q_var rfl rfl rfl)) (q_nm S rfl rfl rfl)
  (s_cons (q_set S rfl rfl rfl (e_bin S (e_bin S (q_var rfl rfl rfl) (e_ix S (q_var rfl rfl rfl) e_int)) (e_call S rfl rfl rfl rfl rfl rfl (es_cons (q_var rfl rfl rfl) (es_cons (e_ix S (q_var rfl rfl rfl) e_int) es_nil)))) rfl)
  s_nil))
  (s_cons (s_ret (e_call S rfl rfl rfl rfl rfl rfl (es_cons (e_lc S rfl (blkOk_by (own := [("item", 2)]) (by show blkC Ir.f11.N d11.scope _ _ = true; decide +kernel)) rfl (i_seq S (q_var rfl rfl rfl)) (fun _ _ _ _ _ S => (q_nm S rfl rfl rfl)) (fun _ _ _ _ _ S => c_none) (fun _ _ _ _ _ S => (e_bin S (e_ix S (q_var rfl rfl rfl) e_int) (e_bin S (q_var rfl rfl rfl) (e_ix S (q_var rfl rfl rfl) e_int))))) es_nil)))
  s_nil)))
  sc := ⟨rfl, rfl, rfl, by decide +kernel, rfl, by decide +kernel, by decide +kernel⟩
  bd := fun _ _ _ _ _ _ us hl => match us, hl with | [_], _ => rfl
  dfl := ⟨rfl, rfl⟩
  le := by decide
def d12 : He.DefD := ⟨("lighter", none), "lighter", "lighter", defArgs (top 21), defBody (top 21), defScope (top 21), [], []⟩
theorem B12 : FnAll Ir.P Ir.names Ir.f12 d12 where
  body := fun G hnm Pm w K mg base fa cdv A outer s H E call fu k S hk hp => (s_cons (q_set S rfl rfl rfl e_int rfl)
  (s_cons (s_for S rfl hp (i_seq S (q_var rfl rfl rfl)) (q_nm S rfl rfl rfl)
  (s_cons (q_set S rfl rfl rfl (e_call S rfl rfl rfl rfl rfl rfl (es_cons (q_var rfl rfl rfl) (es_cons (q_var rfl rfl rfl) es_nil))) rfl)
  s_nil))
  (s_cons (s_ret (e_ifx (t_cmp S (q_var rfl rfl rfl) e_int) (e_lc S rfl (blkOk_by (own := [("item", 2)]) (by show blkC Ir.f12.N d12.scope _ _ = true; decide +kernel)) rfl (i_seq S (q_var rfl rfl rfl)) (fun _ _ _ _ _ S => (q_nm S rfl rfl rfl)) (fun _ _ _ _ _ S => c_none) (fun _ _ _ _ _ S => (e_bin S (q_var rfl rfl rfl) (q_var rfl rfl rfl)))) (q_var rfl rfl rfl)))
  s_nil)))
  sc := ⟨rfl, rfl, rfl, by decide +kernel, rfl, by decide +kernel, by decide +kernel⟩
  bd := fun _ _ _ _ _ _ us hl => match us, hl with | [_], _ => rfl
  dfl := ⟨rfl, rfl⟩
  le := by decide
def d13 : He.DefD := ⟨("leading", none), "leading", "leading", defArgs (top 22), defBody (top 22), defScope (top 22), [], []⟩
theorem B13 : FnAll Ir.P Ir.names Ir.f13 d13 where
  body := fun G hnm Pm w K mg base fa cdv A outer s H E call fu k S hk hp => (s_cons (s_setLc S rfl rfl rfl rfl (blkOk_by (own := [("place", 2), ("item", 3)]) (by show blkC Ir.f13.N d13.scope _ _ = true; decide +kernel)) rfl (i_en S rfl (q_var rfl rfl rfl)) (fun _ _ _ _ _ S => (g_tup S rfl (gs_cons (q_nm S rfl rfl rfl) (gs_cons (q_nm S rfl rfl rfl) gs_nil)))) (fun _ _ _ _ _ S => (c_one (t_eq S rfl (q_var rfl rfl rfl) e_int))) (fun _ _ _ _ _ S => (q_var rfl rfl rfl)))
  (s_cons (s_ret (e_ifx (t_cmp S (e_biB S rfl rfl (ha := (es_cons (q_var rfl rfl rfl) es_nil))) e_int) (e_ix S (q_var rfl rfl rfl) e_int) e_non))
  s_nil))
  sc := ⟨rfl, rfl, rfl, by decide +kernel, rfl, by decide +kernel, by decide +kernel⟩
  bd := fun _ _ _ _ _ _ us hl => match us, hl with | [_], _ => rfl
  dfl := ⟨rfl, rfl⟩
  le := by decide
def d14 : He.DefD := ⟨("Steps", some "__init__"), "__init__", "Steps.__init__", defArgs (inClass (top 23) 0), defBody (inClass (top 23) 0), defScope (inClass (top 23) 0), [], []⟩
theorem B14 : FnAll Ir.P Ir.names Ir.f14 d14 where
  body := fun G hnm Pm w K mg base fa cdv A outer s H E call fu k S hk hp => (s_cons (s_fld S rfl hnm rfl (q_var rfl rfl rfl) e_dnew)
  (s_cons (s_for S rfl hp (i_seq S (q_var rfl rfl rfl)) (q_nm S rfl rfl rfl)
  (s_cons (s_expr (e_meth S rfl hnm rfl (q_var rfl rfl rfl) (es_cons (q_var rfl rfl rfl) es_nil)))
  s_nil))
  s_nil))
  sc := ⟨rfl, rfl, rfl, by decide +kernel, rfl, by decide +kernel, by decide +kernel⟩
  bd := fun _ _ _ _ _ _ us hl => match us, hl with | [_, _], _ => rfl
  dfl := ⟨rfl, rfl⟩
  le := by decide
def d15 : He.DefD := ⟨("Steps", some "left_of"), "left_of", "Steps.left_of", defArgs (inClass (top 23) 1), defBody (inClass (top 23) 1), defScope (inClass (top 23) 1), [], []⟩
theorem B15 : FnAll Ir.P Ir.names Ir.f15 d15 where
  body := fun G hnm Pm w K mg base fa cdv A outer s H E call fu k S hk hp => (s_cons (q_set S rfl rfl rfl (e_call S rfl rfl rfl rfl rfl rfl (es_cons (q_var rfl rfl rfl) es_nil)) rfl)
  (s_cons (s_for S rfl hp (i_seq S (e_srt S rfl (e_dkeys S rfl rfl (q_fld S rfl hnm rfl (q_var rfl rfl rfl))))) (q_nm S rfl rfl rfl)
  (s_cons (s_if (t_eq S rfl (e_ix S (q_var rfl rfl rfl) (q_var rfl rfl rfl)) e_int)
  (s_cons (q_set S rfl rfl rfl (e_dix S (q_fld S rfl hnm rfl (q_var rfl rfl rfl)) (q_var rfl rfl rfl)) rfl)
  (s_cons (s_asg (e_tup (es_cons (e_ix S (q_var rfl rfl rfl) (q_var rfl rfl rfl)) (es_cons (e_ix S (q_var rfl rfl rfl) (q_var rfl rfl rfl)) es_nil))) (g_tup S rfl (gs_cons (q_nm S rfl rfl rfl) (gs_cons (q_nm S rfl rfl rfl) gs_nil))))
  (s_cons (q_set S rfl rfl rfl (e_call S rfl rfl rfl rfl rfl rfl (es_cons (e_lc S rfl (blkOk_by (own := [("item", 7), ("other", 8)]) (by show blkC Ir.f15.N d15.scope _ _ = true; decide +kernel)) rfl (i_zip S rfl (q_var rfl rfl rfl) (q_var rfl rfl rfl)) (fun _ _ _ _ _ S => (g_tup S rfl (gs_cons (q_nm S rfl rfl rfl) (gs_cons (q_nm S rfl rfl rfl) gs_nil)))) (fun _ _ _ _ _ S => c_none) (fun _ _ _ _ _ S => (e_bin S (e_bin S (q_var rfl rfl rfl) (q_var rfl rfl rfl)) (e_bin S (q_var rfl rfl rfl) (q_var rfl rfl rfl))))) es_nil)) rfl)
  s_nil)))
  s_nil)
  s_nil))
  (s_cons (s_ret (q_var rfl rfl rfl))
  s_nil)))
  sc := ⟨rfl, rfl, rfl, by decide +kernel, rfl, by decide +kernel, by decide +kernel⟩
  bd := fun _ _ _ _ _ _ us hl => match us, hl with | [_, _], _ => rfl
  dfl := ⟨rfl, rfl⟩
  le := by decide
def d16 : He.DefD := ⟨("Steps", some "add"), "add", "Steps.add", defArgs (inClass (top 23) 2), defBody (inClass (top 23) 2), defScope (inClass (top 23) 2), [], []⟩
theorem B16 : FnAll Ir.P Ir.names Ir.f16 d16 where
  body := fun G hnm Pm w K mg base fa cdv A outer s H E call fu k S hk hp => (s_cons (q_set S rfl rfl rfl (e_meth S rfl hnm rfl (q_var rfl rfl rfl) (es_cons (q_var rfl rfl rfl) es_nil)) rfl)
  (s_cons (q_set S rfl rfl rfl (e_call S rfl rfl rfl rfl rfl rfl (es_cons (q_var rfl rfl rfl) es_nil)) rfl)
  (s_cons (s_if (t_isn (q_var rfl rfl rfl))
  (s_cons (s_ret e_bl)
  s_nil)
  s_nil)
  (s_cons (s_asg (q_var rfl rfl rfl) (g_dsub S (q_fld S rfl hnm rfl (q_var rfl rfl rfl)) (q_var rfl rfl rfl)))
  (s_cons (s_ret e_bl)
  s_nil)))))
  sc := ⟨rfl, rfl, rfl, by decide +kernel, rfl, by decide +kernel, by decide +kernel⟩
  bd := fun _ _ _ _ _ _ us hl => match us, hl with | [_, _], _ => rfl
  dfl := ⟨rfl, rfl⟩
  le := by decide
def d17 : He.DefD := ⟨("Steps", some "holds"), "holds", "Steps.holds", defArgs (inClass (top 23) 3), defBody (inClass (top 23) 3), defScope (inClass (top 23) 3), [], []⟩
theorem B17 : FnAll Ir.P Ir.names Ir.f17 d17 where
  body := fun G hnm Pm w K mg base fa cdv A outer s H E call fu k S hk hp => (s_cons (s_ret (e_isn (e_call S rfl rfl rfl rfl rfl rfl (es_cons (e_meth S rfl hnm rfl (q_var rfl rfl rfl) (es_cons (q_var rfl rfl rfl) es_nil)) es_nil))))
  s_nil)
  sc := ⟨rfl, rfl, rfl, by decide +kernel, rfl, by decide +kernel, by decide +kernel⟩
  bd := fun _ _ _ _ _ _ us hl => match us, hl with | [_, _], _ => rfl
  dfl := ⟨rfl, rfl⟩
  le := by decide
def d18 : He.DefD := ⟨("Steps", some "rank"), "rank", "Steps.rank", defArgs (inClass (top 23) 4), defBody (inClass (top 23) 4), defScope (inClass (top 23) 4), [], []⟩
theorem B18 : FnAll Ir.P Ir.names Ir.f18 d18 where
  body := fun G hnm Pm w K mg base fa cdv A outer s H E call fu k S hk hp => (s_cons (s_expr (e_call S rfl rfl rfl rfl rfl rfl (es_cons e_int es_nil)))
  s_nil)
  sc := ⟨rfl, rfl, rfl, by decide +kernel, rfl, by decide +kernel, by decide +kernel⟩
  bd := fun _ _ _ _ _ _ us hl => match us, hl with | [_], _ => rfl
  dfl := ⟨rfl, rfl⟩
  le := by decide
def d19 : He.DefD := ⟨("free_places", none), "free_places", "free_places", defArgs (top 24), defBody (top 24), defScope (top 24), [], []⟩
theorem B19 : FnAll Ir.P Ir.names Ir.f19 d19 where
  body := fun G hnm Pm w K mg base fa cdv A outer s H E call fu k S hk hp => (s_cons (q_set S rfl rfl rfl (e_mk S rfl rfl rfl rfl rfl rfl rfl (es_cons (q_var rfl rfl rfl) es_nil)) rfl)
  (s_cons (s_ret (e_lc S rfl (blkOk_by (own := [("place", 3), ("row", 4)]) (by show blkC Ir.f19.N d19.scope _ _ = true; decide +kernel)) rfl (i_en S rfl (q_var rfl rfl rfl)) (fun _ _ _ _ _ S => (g_tup S rfl (gs_cons (q_nm S rfl rfl rfl) (gs_cons (q_nm S rfl rfl rfl) gs_nil)))) (fun _ _ _ _ _ S => (c_one (t_val S (e_meth S rfl hnm rfl (q_var rfl rfl rfl) (es_cons (q_var rfl rfl rfl) es_nil))))) (fun _ _ _ _ _ S => (q_var rfl rfl rfl))))
  s_nil))
  sc := ⟨rfl, rfl, rfl, by decide +kernel, rfl, by decide +kernel, by decide +kernel⟩
  bd := fun _ _ _ _ _ _ us hl => match us, hl with | [_, _], _ => rfl
  dfl := ⟨rfl, rfl⟩
  le := by decide
def d20 : He.DefD := ⟨("Wish", some "__init__"), "__init__", "Wish.__init__", defArgs (inClass (top 28) 0), defBody (inClass (top 28) 0), defScope (inClass (top 28) 0), [], []⟩
theorem B20 : FnAll Ir.P Ir.names Ir.f20 d20 where
  body := fun G hnm Pm w K mg base fa cdv A outer s H E call fu k S hk hp => (s_cons (s_if (t_not (t_val S (e_call S rfl rfl rfl rfl rfl rfl (es_cons (q_var rfl rfl rfl) (es_cons e_int (es_cons (e_glob S rfl rfl rfl) es_nil))))))
  (s_cons (s_raise1 S rfl hk rfl rfl rfl rfl (es_cons (e_tup (es_cons e_str es_nil)) es_nil))
  s_nil)
  s_nil)
  (s_cons (s_for S rfl hp (i_en S rfl (q_var rfl rfl rfl)) (g_tup S rfl (gs_cons (q_nm S rfl rfl rfl) (gs_cons (q_nm S rfl rfl rfl) gs_nil)))
  (s_cons (s_if (t_and (w_and (t_isnt (q_var rfl rfl rfl)) (w_one (t_not (t_val S (e_call S rfl rfl rfl rfl rfl rfl (es_cons (q_var rfl rfl rfl) (es_cons (e_biB S rfl rfl (ha := (es_cons (q_var rfl rfl rfl) es_nil))) es_nil))))))))
  (s_cons (s_raise1 S rfl hk rfl rfl rfl rfl (es_cons (e_tup (es_cons e_str (es_cons (q_var rfl rfl rfl) es_nil))) es_nil))
  s_nil)
  s_nil)
  s_nil))
  (s_cons (s_if (t_not (t_val S (e_call S rfl rfl rfl rfl rfl rfl (es_cons (q_var rfl rfl rfl) (es_cons (e_biB S rfl rfl (ha := (es_cons (q_var rfl rfl rfl) es_nil))) es_nil)))))
  (s_cons (s_raise1 S rfl hk rfl rfl rfl rfl (es_cons (e_tup (es_cons e_str es_nil)) es_nil))
  s_nil)
  s_nil)
  (s_cons (s_if (t_not (t_val S (e_call S rfl rfl rfl rfl rfl rfl (es_cons (q_var rfl rfl rfl) (es_cons e_int (es_cons (e_glob S rfl rfl rfl) es_nil))))))
  (s_cons (s_raise1 S rfl hk rfl rfl rfl rfl (es_cons (e_tup (es_cons e_str es_nil)) es_nil))
  s_nil)
  s_nil)
  (s_cons (s_fld S rfl hnm rfl (q_var rfl rfl rfl) (q_var rfl rfl rfl))
  (s_cons (s_fld S rfl hnm rfl (q_var rfl rfl rfl) (q_var rfl rfl rfl))
  (s_cons (s_fld S rfl hnm rfl (q_var rfl rfl rfl) (q_var rfl rfl rfl))
  s_nil)))))))
  sc := ⟨rfl, rfl, rfl, by decide +kernel, rfl, by decide +kernel, by decide +kernel⟩
  bd := fun _ _ _ _ _ _ us hl => match us, hl with | [_, _, _, _], _ => rfl
  dfl := ⟨rfl, rfl⟩
  le := by decide
def d21 : He.DefD := ⟨("Wish", some "__eq__"), "__eq__", "Wish.__eq__", defArgs (inClass (top 28) 1), defBody (inClass (top 28) 1), defScope (inClass (top 28) 1), [], []⟩
theorem B21 : FnAll Ir.P Ir.names Ir.f21 d21 where
  body := fun G hnm Pm w K mg base fa cdv A outer s H E call fu k S hk hp => (s_cons (s_if (t_not (t_val S (e_isi S rfl (q_var rfl rfl rfl) (ty_c S rfl rfl rfl))))
  (s_cons (s_ret e_bl)
  s_nil)
  s_nil)
  (s_cons (s_ret (e_and (e_and2 S (e_eq S rfl (q_fld S rfl hnm rfl (q_var rfl rfl rfl)) (q_fld S rfl hnm rfl (q_var rfl rfl rfl))) (e_and2 S (e_eq S rfl (q_fld S rfl hnm rfl (q_var rfl rfl rfl)) (q_fld S rfl hnm rfl (q_var rfl rfl rfl))) (e_one (e_eq S rfl (q_fld S rfl hnm rfl (q_var rfl rfl rfl)) (q_fld S rfl hnm rfl (q_var rfl rfl rfl))))))))
  s_nil))
  sc := ⟨rfl, rfl, rfl, by decide +kernel, rfl, by decide +kernel, by decide +kernel⟩
  bd := fun _ _ _ _ _ _ us hl => match us, hl with | [_, _], _ => rfl
  dfl := ⟨rfl, rfl⟩
  le := by decide
def d22 : He.DefD := ⟨("own_cells", none), "own_cells", "own_cells", defArgs (top 29), defBody (top 29), defScope (top 29), [], []⟩
theorem B22 : FnAll Ir.P Ir.names Ir.f22 d22 where
  body := fun G hnm Pm w K mg base fa cdv A outer s H E call fu k S hk hp => (s_cons (s_ret (e_biB S rfl rfl (ha := (es_cons (q_fld S rfl hnm rfl (q_var rfl rfl rfl)) es_nil))))
  s_nil)
  sc := ⟨rfl, rfl, rfl, by decide +kernel, rfl, by decide +kernel, by decide +kernel⟩
  bd := fun _ _ _ _ _ _ us hl => match us, hl with | [_], _ => rfl
  dfl := ⟨rfl, rfl⟩
  le := by decide
def d23 : He.DefD := ⟨("all_cells", none), "all_cells", "all_cells", defArgs (top 30), defBody (top 30), defScope (top 30), [], []⟩
theorem B23 : FnAll Ir.P Ir.names Ir.f23 d23 where
  body := fun G hnm Pm w K mg base fa cdv A outer s H E call fu k S hk hp => (s_cons (s_ret (e_bin S (e_biB S rfl rfl (ha := (es_cons (q_fld S rfl hnm rfl (q_var rfl rfl rfl)) es_nil))) (q_fld S rfl hnm rfl (q_var rfl rfl rfl))))
  s_nil)
  sc := ⟨rfl, rfl, rfl, by decide +kernel, rfl, by decide +kernel, by decide +kernel⟩
  bd := fun _ _ _ _ _ _ us hl => match us, hl with | [_], _ => rfl
  dfl := ⟨rfl, rfl⟩
  le := by decide
def d24 : He.DefD := ⟨("wished_cells", none), "wished_cells", "wished_cells", defArgs (top 31), defBody (top 31), defScope (top 31), [], []⟩
theorem B24 : FnAll Ir.P Ir.names Ir.f24 d24 where
  body := fun G hnm Pm w K mg base fa cdv A outer s H E call fu k S hk hp => (s_cons (s_ret (e_lc S rfl (blkOk_by (own := [("cell", 1), ("row", 2)]) (by show blkC Ir.f24.N d24.scope _ _ = true; decide +kernel)) rfl (i_en S rfl (q_fld S rfl hnm rfl (q_var rfl rfl rfl))) (fun _ _ _ _ _ S => (g_tup S rfl (gs_cons (q_nm S rfl rfl rfl) (gs_cons (q_nm S rfl rfl rfl) gs_nil)))) (fun _ _ _ _ _ S => (c_one (t_isnt (q_var rfl rfl rfl)))) (fun _ _ _ _ _ S => (q_var rfl rfl rfl))))
  s_nil)
  sc := ⟨rfl, rfl, rfl, by decide +kernel, rfl, by decide +kernel, by decide +kernel⟩
  bd := fun _ _ _ _ _ _ us hl => match us, hl with | [_], _ => rfl
  dfl := ⟨rfl, rfl⟩
  le := by decide
def d25 : He.DefD := ⟨("is_order", none), "is_order", "is_order", defArgs (top 37), defBody (top 37), defScope (top 37), [], []⟩
theorem B25 : FnAll Ir.P Ir.names Ir.f25 d25 where
  body := fun G hnm Pm w K mg base fa cdv A outer s H E call fu k S hk hp => (s_cons (s_ret (e_and (e_and2 S (e_call S rfl rfl rfl rfl rfl rfl (es_cons (q_var rfl rfl rfl) (es_cons e_int (es_cons (e_glob S rfl rfl rfl) es_nil)))) (e_one (e_biB S rfl rfl (ha := (es_cons (e_lc S rfl (blkOk_by (own := [("cell", 2)]) (by show blkC Ir.f25.N d25.scope _ _ = true; decide +kernel)) rfl (i_seq S (q_var rfl rfl rfl)) (fun _ _ _ _ _ S => (q_nm S rfl rfl rfl)) (fun _ _ _ _ _ S => c_none) (fun _ _ _ _ _ S => (e_call S rfl rfl rfl rfl rfl rfl (es_cons (q_var rfl rfl rfl) (es_cons e_int (es_cons (e_bin S (e_call S rfl rfl rfl rfl rfl rfl (es_cons (q_var rfl rfl rfl) es_nil)) e_int) es_nil)))))) es_nil)))))))
  s_nil)
  sc := ⟨rfl, rfl, rfl, by decide +kernel, rfl, by decide +kernel, by decide +kernel⟩
  bd := fun _ _ _ _ _ _ us hl => match us, hl with | [_, _], _ => rfl
  dfl := ⟨rfl, rfl⟩
  le := by decide
def d26 : He.DefD := ⟨("check_order", none), "check_order", "check_order", defArgs (top 38), defBody (top 38), defScope (top 38), [], []⟩
theorem B26 : FnAll Ir.P Ir.names Ir.f26 d26 where
  body := fun G hnm Pm w K mg base fa cdv A outer s H E call fu k S hk hp => (s_cons (s_if (t_not (t_val S (e_call S rfl rfl rfl rfl rfl rfl (es_cons (q_var rfl rfl rfl) (es_cons (q_var rfl rfl rfl) es_nil)))))
  (s_cons (s_raise0 S rfl rfl rfl rfl rfl)
  s_nil)
  s_nil)
  s_nil)
  sc := ⟨rfl, rfl, rfl, by decide +kernel, rfl, by decide +kernel, by decide +kernel⟩
  bd := fun _ _ _ _ _ _ us hl => match us, hl with | [_, _], _ => rfl
  dfl := ⟨rfl, rfl⟩
  le := by decide
def d27 : He.DefD := ⟨("ticks_of", none), "ticks_of", "ticks_of", defArgs (top 39), defBody (top 39), defScope (top 39), [], []⟩
theorem B27 : FnAll Ir.P Ir.names Ir.f27 d27 where
  body := fun G hnm Pm w K mg base fa cdv A outer s H E call fu k S hk hp => (s_cons (s_ret (e_biT S rfl rfl (ha := (es_cons (e_lc S rfl (blkOk_by (own := [("cell", 1)]) (by show blkC Ir.f27.N d27.scope _ _ = true; decide +kernel)) rfl (i_seq S (q_var rfl rfl rfl)) (fun _ _ _ _ _ S => (q_nm S rfl rfl rfl)) (fun _ _ _ _ _ S => c_none) (fun _ _ _ _ _ S => (e_tup (es_cons (q_var rfl rfl rfl) es_nil)))) es_nil))))
  s_nil)
  sc := ⟨rfl, rfl, rfl, by decide +kernel, rfl, by decide +kernel, by decide +kernel⟩
  bd := fun _ _ _ _ _ _ us hl => match us, hl with | [_], _ => rfl
  dfl := ⟨rfl, rfl⟩
  le := by decide
def d28 : He.DefD := ⟨("stage_of", none), "stage_of", "stage_of", defArgs (top 40), defBody (top 40), defScope (top 40), [], []⟩
theorem B28 : FnAll Ir.P Ir.names Ir.f28 d28 where
  body := fun G hnm Pm w K mg base fa cdv A outer s H E call fu k S hk hp => (s_cons (s_if (t_cmp S (q_var rfl rfl rfl) (q_var rfl rfl rfl))
  (s_cons (s_ret (e_glob S rfl rfl rfl))
  s_nil)
  s_nil)
  (s_cons (q_set S rfl rfl rfl (e_and (e_and2 S (e_cmp S (q_var rfl rfl rfl) (e_call S rfl rfl rfl rfl rfl rfl (es_cons (q_var rfl rfl rfl) es_nil))) (e_one (e_isnt (e_ix S (q_fld S rfl hnm rfl (q_var rfl rfl rfl)) (q_var rfl rfl rfl)))))) rfl)
  (s_cons (s_ret (e_ifx (t_and (w_and (t_val S (q_var rfl rfl rfl)) (w_one (t_cmp S (q_var rfl rfl rfl) (q_var rfl rfl rfl))))) (e_glob S rfl rfl rfl) (e_glob S rfl rfl rfl)))
  s_nil)))
  sc := ⟨rfl, rfl, rfl, by decide +kernel, rfl, by decide +kernel, by decide +kernel⟩
  bd := fun _ _ _ _ _ _ us hl => match us, hl with | [_, _, _, _], _ => rfl
  dfl := ⟨rfl, rfl⟩
  le := by decide
def d29 : He.DefD := ⟨("stages_at", none), "stages_at", "stages_at", defArgs (top 41), defBody (top 41), defScope (top 41), [], []⟩
theorem B29 : FnAll Ir.P Ir.names Ir.f29 d29 where
  body := fun G hnm Pm w K mg base fa cdv A outer s H E call fu k S hk hp => (s_cons (q_set S rfl rfl rfl (e_biB S rfl rfl (ha := (es_cons (e_lc S rfl (blkOk_by (own := [("tick", 5)]) (by show blkC Ir.f29.N d29.scope _ _ = true; decide +kernel)) rfl (i_seq S (e_sl S (q_var rfl rfl rfl) o_none (o_some (q_var rfl rfl rfl)))) (fun _ _ _ _ _ S => (q_nm S rfl rfl rfl)) (fun _ _ _ _ _ S => c_none) (fun _ _ _ _ _ S => (e_biT S rfl rfl (ha := (es_cons (q_var rfl rfl rfl) es_nil))))) (es_cons (e_lst es_nil) es_nil)))) rfl)
  (s_cons (q_set S rfl rfl rfl (e_biB S rfl rfl (ha := (es_cons (e_lc S rfl (blkOk_by (own := [("tick", 5)]) (by show blkC Ir.f29.N d29.scope _ _ = true; decide +kernel)) rfl (i_seq S (e_sl S (q_var rfl rfl rfl) (o_some (q_var rfl rfl rfl)) o_none)) (fun _ _ _ _ _ S => (q_nm S rfl rfl rfl)) (fun _ _ _ _ _ S => c_none) (fun _ _ _ _ _ S => (e_biT S rfl rfl (ha := (es_cons (q_var rfl rfl rfl) es_nil))))) (es_cons (e_lst es_nil) es_nil)))) rfl)
  (s_cons (s_ret (e_biT S rfl rfl (ha := (es_cons (e_lc S rfl (blkOk_by (own := [("cell", 6)]) (by show blkC Ir.f29.N d29.scope _ _ = true; decide +kernel)) rfl (i_rng S rfl (e_call S rfl rfl rfl rfl rfl rfl (es_cons (q_var rfl rfl rfl) es_nil))) (fun _ _ _ _ _ S => (q_nm S rfl rfl rfl)) (fun _ _ _ _ _ S => c_none) (fun _ _ _ _ _ S => (e_call S rfl rfl rfl rfl rfl rfl (es_cons (q_var rfl rfl rfl) (es_cons (q_var rfl rfl rfl) (es_cons (q_var rfl rfl rfl) (es_cons (q_var rfl rfl rfl) es_nil))))))) es_nil))))
  s_nil)))
  sc := ⟨rfl, rfl, rfl, by decide +kernel, rfl, by decide +kernel, by decide +kernel⟩
  bd := fun _ _ _ _ _ _ us hl => match us, hl with | [_, _, _], _ => rfl
  dfl := ⟨rfl, rfl⟩
  le := by decide
def d30 : He.DefD := ⟨("safe_rows", none), "safe_rows", "safe_rows", defArgs (top 42), defBody (top 42), defScope (top 42), [], []⟩
theorem B30 : FnAll Ir.P Ir.names Ir.f30 d30 where
  body := fun G hnm Pm w K mg base fa cdv A outer s H E call fu k S hk hp => (s_cons (q_set S rfl rfl rfl (e_call S rfl rfl rfl rfl rfl rfl (es_cons (q_var rfl rfl rfl) es_nil)) rfl)
  (s_cons (s_setLc S rfl rfl rfl rfl (blkOk_by (own := [("cell", 4)]) (by show blkC Ir.f30.N d30.scope _ _ = true; decide +kernel)) rfl (i_rng S rfl (q_var rfl rfl rfl)) (fun _ _ _ _ _ S => (q_nm S rfl rfl rfl)) (fun _ _ _ _ _ S => (c_one (t_eq S rfl (e_ix S (q_var rfl rfl rfl) (q_var rfl rfl rfl)) (e_glob S rfl rfl rfl)))) (fun _ _ _ _ _ S => (e_call S rfl rfl rfl rfl rfl rfl (es_cons (q_var rfl rfl rfl) (es_cons (q_var rfl rfl rfl) es_nil)))))
  (s_cons (s_ret (e_bin S (q_var rfl rfl rfl) (e_lc S rfl (blkOk_by (own := [("cell", 4)]) (by show blkC Ir.f30.N d30.scope _ _ = true; decide +kernel)) rfl (i_rng S rfl (q_var rfl rfl rfl)) (fun _ _ _ _ _ S => (q_nm S rfl rfl rfl)) (fun _ _ _ _ _ S => (c_one (t_eq S rfl (e_ix S (q_var rfl rfl rfl) (q_var rfl rfl rfl)) (e_glob S rfl rfl rfl)))) (fun _ _ _ _ _ S => (e_ix S (q_fld S rfl hnm rfl (q_var rfl rfl rfl)) (q_var rfl rfl rfl))))))
  s_nil)))
  sc := ⟨rfl, rfl, rfl, by decide +kernel, rfl, by decide +kernel, by decide +kernel⟩
  bd := fun _ _ _ _ _ _ us hl => match us, hl with | [_, _], _ => rfl
  dfl := ⟨rfl, rfl⟩
  le := by decide
def d31 : He.DefD := ⟨("free_cells", none), "free_cells", "free_cells", defArgs (top 43), defBody (top 43), defScope (top 43), [], []⟩
theorem B31 : FnAll Ir.P Ir.names Ir.f31 d31 where
  body := fun G hnm Pm w K mg base fa cdv A outer s H E call fu k S hk hp => (s_cons (q_set S rfl rfl rfl (e_call S rfl rfl rfl rfl rfl rfl (es_cons (q_var rfl rfl rfl) es_nil)) rfl)
  (s_cons (q_set S rfl rfl rfl (e_call S rfl rfl rfl rfl rfl rfl (es_cons (e_lc S rfl (blkOk_by (own := [("cell", 5)]) (by show blkC Ir.f31.N d31.scope _ _ = true; decide +kernel)) rfl (i_seq S (q_var rfl rfl rfl)) (fun _ _ _ _ _ S => (q_nm S rfl rfl rfl)) (fun _ _ _ _ _ S => c_none) (fun _ _ _ _ _ S => (e_ix S (q_fld S rfl hnm rfl (q_var rfl rfl rfl)) (q_var rfl rfl rfl)))) (es_cons (e_call S rfl rfl rfl rfl rfl rfl (es_cons (q_var rfl rfl rfl) (es_cons (q_var rfl rfl rfl) es_nil))) es_nil))) rfl)
  (s_cons (s_ret (e_lc S rfl (blkOk_by (own := [("place", 4)]) (by show blkC Ir.f31.N d31.scope _ _ = true; decide +kernel)) rfl (i_seq S (q_var rfl rfl rfl)) (fun _ _ _ _ _ S => (q_nm S rfl rfl rfl)) (fun _ _ _ _ _ S => c_none) (fun _ _ _ _ _ S => (e_ix S (q_var rfl rfl rfl) (q_var rfl rfl rfl)))))
  s_nil)))
  sc := ⟨rfl, rfl, rfl, by decide +kernel, rfl, by decide +kernel, by decide +kernel⟩
  bd := fun _ _ _ _ _ _ us hl => match us, hl with | [_, _], _ => rfl
  dfl := ⟨rfl, rfl⟩
  le := by decide
def d32 : He.DefD := ⟨("amid_cells", none), "amid_cells", "amid_cells", defArgs (top 44), defBody (top 44), defScope (top 44), [], []⟩
theorem B32 : FnAll Ir.P Ir.names Ir.f32 d32 where
  body := fun G hnm Pm w K mg base fa cdv A outer s H E call fu k S hk hp => (s_cons (s_ret (e_lc S rfl (blkOk_by (own := [("cell", 1), ("word", 2)]) (by show blkC Ir.f32.N d32.scope _ _ = true; decide +kernel)) rfl (i_en S rfl (q_var rfl rfl rfl)) (fun _ _ _ _ _ S => (g_tup S rfl (gs_cons (q_nm S rfl rfl rfl) (gs_cons (q_nm S rfl rfl rfl) gs_nil)))) (fun _ _ _ _ _ S => (c_one (t_eq S rfl (q_var rfl rfl rfl) (e_glob S rfl rfl rfl)))) (fun _ _ _ _ _ S => (q_var rfl rfl rfl))))
  s_nil)
  sc := ⟨rfl, rfl, rfl, by decide +kernel, rfl, by decide +kernel, by decide +kernel⟩
  bd := fun _ _ _ _ _ _ us hl => match us, hl with | [_], _ => rfl
  dfl := ⟨rfl, rfl⟩
  le := by decide
def d33 : He.DefD := ⟨("lack_at", none), "lack_at", "lack_at", defArgs (top 45), defBody (top 45), defScope (top 45), [], []⟩
theorem B33 : FnAll Ir.P Ir.names Ir.f33 d33 where
  body := fun G hnm Pm w K mg base fa cdv A outer s H E call fu k S hk hp => (s_cons (s_ret (e_tup (es_cons (e_biB S rfl rfl (ha := (es_cons (e_call S rfl rfl rfl rfl rfl rfl (es_cons (q_var rfl rfl rfl) (es_cons (q_var rfl rfl rfl) es_nil))) es_nil))) (es_cons (e_biB S rfl rfl (ha := (es_cons (e_call S rfl rfl rfl rfl rfl rfl (es_cons (q_var rfl rfl rfl) es_nil)) es_nil))) es_nil))))
  s_nil)
  sc := ⟨rfl, rfl, rfl, by decide +kernel, rfl, by decide +kernel, by decide +kernel⟩
  bd := fun _ _ _ _ _ _ us hl => match us, hl with | [_, _], _ => rfl
  dfl := ⟨rfl, rfl⟩
  le := by decide
def d34 : He.DefD := ⟨("stages", none), "stages", "stages", defArgs (top 46), defBody (top 46), defScope (top 46), [], []⟩
theorem B34 : FnAll Ir.P Ir.names Ir.f34 d34 where
  body := fun G hnm Pm w K mg base fa cdv A outer s H E call fu k S hk hp => (s_cons (s_expr (e_call S rfl rfl rfl rfl rfl rfl (es_cons (q_var rfl rfl rfl) (es_cons (q_var rfl rfl rfl) es_nil))))
  (s_cons (s_if (t_not (t_val S (e_call S rfl rfl rfl rfl rfl rfl (es_cons (q_var rfl rfl rfl) (es_cons e_int (es_cons (e_biB S rfl rfl (ha := (es_cons (q_var rfl rfl rfl) es_nil))) es_nil))))))
  (s_cons (s_raise0 S rfl rfl rfl rfl rfl)
  s_nil)
  s_nil)
  (s_cons (s_ret (e_call S rfl rfl rfl rfl rfl rfl (es_cons (q_var rfl rfl rfl) (es_cons (e_call S rfl rfl rfl rfl rfl rfl (es_cons (q_var rfl rfl rfl) es_nil)) (es_cons (q_var rfl rfl rfl) es_nil)))))
  s_nil)))
  sc := ⟨rfl, rfl, rfl, by decide +kernel, rfl, by decide +kernel, by decide +kernel⟩
  bd := fun _ _ _ _ _ _ us hl => match us, hl with | [_, _, _], _ => rfl
  dfl := ⟨rfl, rfl⟩
  le := by decide
def d35 : He.DefD := ⟨("lack", none), "lack", "lack", defArgs (top 47), defBody (top 47), defScope (top 47), [], []⟩
theorem B35 : FnAll Ir.P Ir.names Ir.f35 d35 where
  body := fun G hnm Pm w K mg base fa cdv A outer s H E call fu k S hk hp => (s_cons (s_ret (e_call S rfl rfl rfl rfl rfl rfl (es_cons (q_var rfl rfl rfl) (es_cons (e_call S rfl rfl rfl rfl rfl rfl (es_cons (q_var rfl rfl rfl) (es_cons (q_var rfl rfl rfl) (es_cons (q_var rfl rfl rfl) es_nil)))) es_nil))))
  s_nil)
  sc := ⟨rfl, rfl, rfl, by decide +kernel, rfl, by decide +kernel, by decide +kernel⟩
  bd := fun _ _ _ _ _ _ us hl => match us, hl with | [_, _, _], _ => rfl
  dfl := ⟨rfl, rfl⟩
  le := by decide
def d36 : He.DefD := ⟨("_law_pool", none), "_law_pool", "_law_pool", defArgs (top 49), defBody (top 49), defScope (top 49), [], []⟩
theorem B36 : FnAll Ir.P Ir.names Ir.f36 d36 where
  body := fun G hnm Pm w K mg base fa cdv A outer s H E call fu k S hk hp => (s_cons (q_set S rfl rfl rfl (e_bin S (e_bin S (e_bin S (e_biT S rfl rfl (ha := (es_cons (e_biB S rfl rfl (ha := (es_cons (e_sl S (q_var rfl rfl rfl) o_none (o_some e_int)) es_nil))) es_nil))) e_int) (e_biB S rfl rfl (ha := (es_cons (q_var rfl rfl rfl) es_nil)))) e_int) rfl)
  (s_cons (s_for S rfl hp (i_seq S (e_sl S (q_var rfl rfl rfl) o_none (o_some e_int))) (q_nm S rfl rfl rfl)
  (s_cons (q_set S rfl rfl rfl (e_bin S (e_biT S rfl rfl (ha := (es_cons (e_bin S (e_bin S (e_bin S (q_var rfl rfl rfl) e_int) (e_bin S (e_biT S rfl rfl (ha := (es_cons (q_var rfl rfl rfl) es_nil))) e_int)) e_int) es_nil))) e_int) rfl)
  s_nil))
  (s_cons (s_ret (e_lsw (es_cons (q_var rfl rfl rfl) (es_cons e_int (es_cons (e_lcT S rfl (blkOk_by (own := [("cell", 2)]) (by show blkC Ir.f36.N d36.scope _ _ = true; decide +kernel)) rfl (i_seq S (e_sl S (q_var rfl rfl rfl) o_none (o_some e_int))) (fun _ _ _ _ _ S => (q_nm S rfl rfl rfl)) (fun _ _ _ _ _ S => (c_one (t_cmp S (e_biB S rfl rfl (ha := (es_cons (q_var rfl rfl rfl) es_nil))) (e_bin S e_int e_int)))) (fun _ _ _ _ _ S => (e_biB S rfl rfl (ha := (es_cons (q_var rfl rfl rfl) es_nil))))) es_nil)))))
  s_nil)))
  sc := ⟨rfl, rfl, rfl, by decide +kernel, rfl, by decide +kernel, by decide +kernel⟩
  bd := fun _ _ _ _ _ _ us hl => match us, hl with | [_], _ => rfl
  dfl := ⟨rfl, rfl⟩
  le := by decide
def d37 : He.DefD := ⟨("_law_draw", none), "_law_draw", "_law_draw", defArgs (top 50), defBody (top 50), defScope (top 50), [], []⟩
theorem B37 : FnAll Ir.P Ir.names Ir.f37 d37 where
  body := fun G hnm Pm w K mg base fa cdv A outer s H E call fu k S hk hp => (s_cons (s_asg (e_bin S (e_ix S (q_var rfl rfl rfl) e_int) e_int) (g_sub S (q_var rfl rfl rfl) e_int))
  (s_cons (q_set S rfl rfl rfl (e_ix S (q_var rfl rfl rfl) e_int) rfl)
  (s_cons (s_if (t_cmp S (e_biB S rfl rfl (ha := (es_cons (q_var rfl rfl rfl) es_nil))) e_int)
  (s_cons (q_set S rfl rfl rfl (e_bin S (e_biT S rfl rfl (ha := (es_cons (e_ix S (q_var rfl rfl rfl) e_int) es_nil))) (q_var rfl rfl rfl)) rfl)
  (s_cons (s_asg (e_bin S (e_biT S rfl rfl (ha := (es_cons (e_ix S (q_var rfl rfl rfl) e_int) es_nil))) (q_var rfl rfl rfl)) (g_sub S (q_var rfl rfl rfl) e_int))
  (s_cons (s_if (t_eq S rfl (e_ix S (q_var rfl rfl rfl) e_int) e_int)
  (s_cons (s_expr (e_pop S (q_var rfl rfl rfl) (es_cons e_int es_nil)))
  s_nil)
  s_nil)
  (s_cons (s_ret (q_var rfl rfl rfl))
  s_nil))))
  s_nil)
  (s_cons (q_set S rfl rfl rfl (e_bin S (e_biT S rfl rfl (ha := (es_cons (e_bin S (e_bin S (e_ix S (q_var rfl rfl rfl) e_int) (e_bin S e_int (e_ix S (q_var rfl rfl rfl) e_int))) e_int) es_nil))) e_int) rfl)
  (s_cons (q_set S rfl rfl rfl (e_bin S (e_biT S rfl rfl (ha := (es_cons (e_bin S (q_var rfl rfl rfl) (e_bin S (e_bin S (q_var rfl rfl rfl) e_int) e_int)) es_nil))) e_int) rfl)
  (s_cons (q_set S rfl rfl rfl (e_bin S (e_biT S rfl rfl (ha := (es_cons (e_bin S (q_var rfl rfl rfl) (e_bin S (e_bin S (q_var rfl rfl rfl) e_int) e_int)) es_nil))) e_int) rfl)
  (s_cons (s_ret (e_bin S (e_biT S rfl rfl (ha := (es_cons (e_bin S (q_var rfl rfl rfl) e_int) es_nil))) (q_var rfl rfl rfl)))
  s_nil)))))))
  sc := ⟨rfl, rfl, rfl, by decide +kernel, rfl, by decide +kernel, by decide +kernel⟩
  bd := fun _ _ _ _ _ _ us hl => match us, hl with | [_, _], _ => rfl
  dfl := ⟨rfl, rfl⟩
  le := by decide
def d38 : He.DefD := ⟨("_law_mixed", none), "_law_mixed", "_law_mixed", defArgs (top 51), defBody (top 51), defScope (top 51), [], []⟩
theorem B38 : FnAll Ir.P Ir.names Ir.f38 d38 where
  body := fun G hnm Pm w K mg base fa cdv A outer s H E call fu k S hk hp => (s_cons (q_set S rfl rfl rfl (e_listT S rfl (es_cons (q_var rfl rfl rfl) es_nil)) rfl)
  (s_cons (q_set S rfl rfl rfl (e_lstT es_nil) rfl)
  (s_cons (s_for S rfl hp (i_rng S rfl (e_biB S rfl rfl (ha := (es_cons (q_var rfl rfl rfl) es_nil)))) (q_nm S rfl rfl rfl)
  (s_cons (s_expr (e_append S (q_var rfl rfl rfl) (es_cons (e_pop S (q_var rfl rfl rfl) (es_cons (e_call S rfl rfl rfl rfl rfl rfl (es_cons (q_var rfl rfl rfl) (es_cons (e_biB S rfl rfl (ha := (es_cons (q_var rfl rfl rfl) es_nil))) es_nil))) es_nil)) es_nil)))
  s_nil))
  (s_cons (s_ret (q_var rfl rfl rfl))
  s_nil))))
  sc := ⟨rfl, rfl, rfl, by decide +kernel, rfl, by decide +kernel, by decide +kernel⟩
  bd := fun _ _ _ _ _ _ us hl => match us, hl with | [_, _], _ => rfl
  dfl := ⟨rfl, rfl⟩
  le := by decide
def d39 : He.DefD := ⟨("_law_deep", none), "_law_deep", "_law_deep", defArgs (top 52), defBody (top 52), defScope (top 52), [], []⟩
theorem B39 : FnAll Ir.P Ir.names Ir.f39 d39 where
  body := fun G hnm Pm w K mg base fa cdv A outer s H E call fu k S hk hp => (s_cons (q_set S rfl rfl rfl (e_lst (es_cons e_non es_nil)) rfl)
  (s_cons (s_for S rfl hp (i_rng S rfl e_int) (q_nm S rfl rfl rfl)
  (s_cons (q_set S rfl rfl rfl (e_lst (es_cons (q_var rfl rfl rfl) es_nil)) rfl)
  s_nil))
  (s_cons (s_ret (q_var rfl rfl rfl))
  s_nil)))
  sc := ⟨rfl, rfl, rfl, by decide +kernel, rfl, by decide +kernel, by decide +kernel⟩
  bd := fun _ _ _ _ _ _ us hl => match us, hl with | [], _ => rfl
  dfl := ⟨rfl, rfl⟩
  le := by decide
def d40 : He.DefD := ⟨("_law_is", none), "_law_is", "_law_is", defArgs (top 53), defBody (top 53), defScope (top 53), [], []⟩
theorem B40 : FnAll Ir.P Ir.names Ir.f40 d40 where
  body := fun G hnm Pm w K mg base fa cdv A outer s H E call fu k S hk hp => (s_cons (s_ret (e_eq S rfl (e_rep S rfl (q_var rfl rfl rfl)) (e_rep S rfl (q_var rfl rfl rfl))))
  s_nil)
  sc := ⟨rfl, rfl, rfl, by decide +kernel, rfl, by decide +kernel, by decide +kernel⟩
  bd := fun _ _ _ _ _ _ us hl => match us, hl with | [_, _], _ => rfl
  dfl := ⟨rfl, rfl⟩
  le := by decide
def d41 : He.DefD := ⟨("_law_low", none), "_law_low", "_law_low", defArgs (top 54), defBody (top 54), defScope (top 54), [], []⟩
theorem B41 : FnAll Ir.P Ir.names Ir.f41 d41 where
  body := fun G hnm Pm w K mg base fa cdv A outer s H E call fu k S hk hp => (s_cons (s_par S rfl rfl rfl (es_cons (e_biB S rfl rfl (ha := (es_cons (q_var rfl rfl rfl) es_nil))) (es_cons (e_biB S rfl rfl (ha := (es_cons (q_var rfl rfl rfl) es_nil))) es_nil)))
  (s_cons (s_while hp (t_cmp S (q_var rfl rfl rfl) e_int)
  (s_cons (s_par S rfl rfl rfl (es_cons (q_var rfl rfl rfl) (es_cons (e_bin S (e_biT S rfl rfl (ha := (es_cons (q_var rfl rfl rfl) es_nil))) (q_var rfl rfl rfl)) es_nil)))
  s_nil))
  (s_cons (q_set S rfl rfl rfl (e_ifx (t_cmp S (q_var rfl rfl rfl) e_int) (q_var rfl rfl rfl) (e_neg (q_var rfl rfl rfl))) rfl)
  (s_cons (s_ret (e_tup (es_cons (e_bin S (q_var rfl rfl rfl) (q_var rfl rfl rfl)) (es_cons (e_bin S (q_var rfl rfl rfl) (q_var rfl rfl rfl)) es_nil))))
  s_nil))))
  sc := ⟨rfl, rfl, rfl, by decide +kernel, rfl, by decide +kernel, by decide +kernel⟩
  bd := fun _ _ _ _ _ _ us hl => match us, hl with | [_, _], _ => rfl
  dfl := ⟨rfl, rfl⟩
  le := by decide
def d42 : He.DefD := ⟨("_law_add", none), "_law_add", "_law_add", defArgs (top 55), defBody (top 55), defScope (top 55), [], []⟩
theorem B42 : FnAll Ir.P Ir.names Ir.f42 d42 where
  body := fun G hnm Pm w K mg base fa cdv A outer s H E call fu k S hk hp => (s_cons (s_ret (e_call S rfl rfl rfl rfl rfl rfl (es_cons (e_bin S (e_bin S (e_ix S (q_var rfl rfl rfl) e_int) (e_ix S (q_var rfl rfl rfl) e_int)) (e_bin S (e_ix S (q_var rfl rfl rfl) e_int) (e_ix S (q_var rfl rfl rfl) e_int))) (es_cons (e_bin S (e_ix S (q_var rfl rfl rfl) e_int) (e_ix S (q_var rfl rfl rfl) e_int)) es_nil))))
  s_nil)
  sc := ⟨rfl, rfl, rfl, by decide +kernel, rfl, by decide +kernel, by decide +kernel⟩
  bd := fun _ _ _ _ _ _ us hl => match us, hl with | [_, _], _ => rfl
  dfl := ⟨rfl, rfl⟩
  le := by decide
def d43 : He.DefD := ⟨("_law_mul", none), "_law_mul", "_law_mul", defArgs (top 56), defBody (top 56), defScope (top 56), [], []⟩
theorem B43 : FnAll Ir.P Ir.names Ir.f43 d43 where
  body := fun G hnm Pm w K mg base fa cdv A outer s H E call fu k S hk hp => (s_cons (s_ret (e_call S rfl rfl rfl rfl rfl rfl (es_cons (e_bin S (e_ix S (q_var rfl rfl rfl) e_int) (e_ix S (q_var rfl rfl rfl) e_int)) (es_cons (e_bin S (e_ix S (q_var rfl rfl rfl) e_int) (e_ix S (q_var rfl rfl rfl) e_int)) es_nil))))
  s_nil)
  sc := ⟨rfl, rfl, rfl, by decide +kernel, rfl, by decide +kernel, by decide +kernel⟩
  bd := fun _ _ _ _ _ _ us hl => match us, hl with | [_, _], _ => rfl
  dfl := ⟨rfl, rfl⟩
  le := by decide
def d44 : He.DefD := ⟨("_law_unit", none), "_law_unit", "_law_unit", defArgs (top 57), defBody (top 57), defScope (top 57), [], []⟩
theorem B44 : FnAll Ir.P Ir.names Ir.f44 d44 where
  body := fun G hnm Pm w K mg base fa cdv A outer s H E call fu k S hk hp => (s_cons (s_ret (e_biT S rfl rfl (ha := (es_cons (e_lc S rfl (blkOk_by (own := [("place", 2)]) (by show blkC Ir.f44.N d44.scope _ _ = true; decide +kernel)) rfl (i_rng S rfl (q_var rfl rfl rfl)) (fun _ _ _ _ _ S => (q_nm S rfl rfl rfl)) (fun _ _ _ _ _ S => c_none) (fun _ _ _ _ _ S => (e_tup (es_cons (e_biT S rfl rfl (ha := (es_cons (e_eq S rfl (q_var rfl rfl rfl) (q_var rfl rfl rfl)) es_nil))) (es_cons e_int es_nil))))) es_nil))))
  s_nil)
  sc := ⟨rfl, rfl, rfl, by decide +kernel, rfl, by decide +kernel, by decide +kernel⟩
  bd := fun _ _ _ _ _ _ us hl => match us, hl with | [_, _], _ => rfl
  dfl := ⟨rfl, rfl⟩
  le := by decide
def d45 : He.DefD := ⟨("_law_left", none), "_law_left", "_law_left", defArgs (top 58), defBody (top 58), defScope (top 58), [], []⟩
theorem B45 : FnAll Ir.P Ir.names Ir.f45 d45 where
  body := fun G hnm Pm w K mg base fa cdv A outer s H E call fu k S hk hp => (s_cons (q_set S rfl rfl rfl (e_biT S rfl rfl (ha := (es_cons (q_var rfl rfl rfl) es_nil))) rfl)
  (s_cons (s_for S rfl hp (i_seq S (q_var rfl rfl rfl)) (g_tup S rfl (gs_cons (q_nm S rfl rfl rfl) (gs_cons (q_nm S rfl rfl rfl) gs_nil)))
  (s_cons (s_if (t_eq S rfl (e_ix S (e_ix S (q_var rfl rfl rfl) (q_var rfl rfl rfl)) e_int) e_int)
  (s_cons (q_set S rfl rfl rfl (e_call S rfl rfl rfl rfl rfl rfl (es_cons (e_bin S (e_neg (e_ix S (e_ix S (q_var rfl rfl rfl) (q_var rfl rfl rfl)) e_int)) (e_ix S (e_ix S (q_var rfl rfl rfl) (q_var rfl rfl rfl)) e_int)) (es_cons (e_bin S (e_ix S (e_ix S (q_var rfl rfl rfl) (q_var rfl rfl rfl)) e_int) (e_ix S (e_ix S (q_var rfl rfl rfl) (q_var rfl rfl rfl)) e_int)) es_nil))) rfl)
  (s_cons (s_setLc S rfl rfl rfl rfl (blkOk_by (own := [("one", 5), ("other", 6)]) (by show blkC Ir.f45.N d45.scope _ _ = true; decide +kernel)) rfl (i_zip S rfl (q_var rfl rfl rfl) (q_var rfl rfl rfl)) (fun _ _ _ _ _ S => (g_tup S rfl (gs_cons (q_nm S rfl rfl rfl) (gs_cons (q_nm S rfl rfl rfl) gs_nil)))) (fun _ _ _ _ _ S => c_none) (fun _ _ _ _ _ S => (e_call S rfl rfl rfl rfl rfl rfl (es_cons (q_var rfl rfl rfl) (es_cons (e_call S rfl rfl rfl rfl rfl rfl (es_cons (q_var rfl rfl rfl) (es_cons (q_var rfl rfl rfl) es_nil))) es_nil)))))
  s_nil))
  s_nil)
  s_nil))
  (s_cons (s_ret (q_var rfl rfl rfl))
  s_nil)))
  sc := ⟨rfl, rfl, rfl, by decide +kernel, rfl, by decide +kernel, by decide +kernel⟩
  bd := fun _ _ _ _ _ _ us hl => match us, hl with | [_, _], _ => rfl
  dfl := ⟨rfl, rfl⟩
  le := by decide
def d46 : He.DefD := ⟨("_law_steps", none), "_law_steps", "_law_steps", defArgs (top 59), defBody (top 59), defScope (top 59), [], []⟩
theorem B46 : FnAll Ir.P Ir.names Ir.f46 d46 where
  body := fun G hnm Pm w K mg base fa cdv A outer s H E call fu k S hk hp => (s_cons (q_set S rfl rfl rfl (e_lstT es_nil) rfl)
  (s_cons (s_for S rfl hp (i_seq S (q_var rfl rfl rfl)) (q_nm S rfl rfl rfl)
  (s_cons (q_set S rfl rfl rfl (e_call S rfl rfl rfl rfl rfl rfl (es_cons (q_var rfl rfl rfl) (es_cons (q_var rfl rfl rfl) es_nil))) rfl)
  (s_cons (s_setLc S rfl rfl rfl rfl (blkOk_by (own := [("place", 5)]) (by show blkC Ir.f46.N d46.scope _ _ = true; decide +kernel)) rfl (i_rng S rfl (e_biB S rfl rfl (ha := (es_cons (q_var rfl rfl rfl) es_nil)))) (fun _ _ _ _ _ S => (q_nm S rfl rfl rfl)) (fun _ _ _ _ _ S => (c_one (t_eq S rfl (e_ix S (e_ix S (q_var rfl rfl rfl) (q_var rfl rfl rfl)) e_int) e_int))) (fun _ _ _ _ _ S => (q_var rfl rfl rfl)))
  (s_cons (s_if (t_cmp S (e_biB S rfl rfl (ha := (es_cons (q_var rfl rfl rfl) es_nil))) e_int)
  (s_cons (s_expr (e_append S (q_var rfl rfl rfl) (es_cons (e_tup (es_cons (e_ix S (q_var rfl rfl rfl) e_int) (es_cons (q_var rfl rfl rfl) es_nil))) es_nil)))
  s_nil)
  s_nil)
  s_nil))))
  (s_cons (s_ret (q_var rfl rfl rfl))
  s_nil)))
  sc := ⟨rfl, rfl, rfl, by decide +kernel, rfl, by decide +kernel, by decide +kernel⟩
  bd := fun _ _ _ _ _ _ us hl => match us, hl with | [_], _ => rfl
  dfl := ⟨rfl, rfl⟩
  le := by decide
def d47 : He.DefD := ⟨("_law_rank", none), "_law_rank", "_law_rank", defArgs (top 60), defBody (top 60), defScope (top 60), [], []⟩
theorem B47 : FnAll Ir.P Ir.names Ir.f47 d47 where
  body := fun G hnm Pm w K mg base fa cdv A outer s H E call fu k S hk hp => (s_cons (s_ret (e_biB S rfl rfl (ha := (es_cons (e_call S rfl rfl rfl rfl rfl rfl (es_cons (q_var rfl rfl rfl) es_nil)) es_nil))))
  s_nil)
  sc := ⟨rfl, rfl, rfl, by decide +kernel, rfl, by decide +kernel, by decide +kernel⟩
  bd := fun _ _ _ _ _ _ us hl => match us, hl with | [_], _ => rfl
  dfl := ⟨rfl, rfl⟩
  le := by decide
def d48 : He.DefD := ⟨("_law_number", none), "_law_number", "_law_number", defArgs (top 61), defBody (top 61), defScope (top 61), [], []⟩
theorem B48 : FnAll Ir.P Ir.names Ir.f48 d48 where
  body := fun G hnm Pm w K mg base fa cdv A outer s H E call fu k S hk hp => (s_cons (q_set S rfl rfl rfl (e_lst (es_cons (e_tup (es_cons e_int (es_cons e_int es_nil))) (es_cons (e_tup (es_cons e_int (es_cons e_int es_nil))) (es_cons (e_tup (es_cons (e_neg e_int) (es_cons e_int es_nil))) (es_cons (e_tup (es_cons e_int (es_cons e_int es_nil))) (es_cons (e_tup (es_cons e_int (es_cons e_int es_nil))) (es_cons (e_tup (es_cons (e_neg e_int) (es_cons e_int es_nil))) (es_cons (e_tup (es_cons e_int (es_cons e_int es_nil))) (es_cons (e_tup (es_cons e_int (es_cons e_int es_nil))) (es_cons (e_tup (es_cons e_int (es_cons e_int es_nil))) (es_cons (e_tup (es_cons e_int (es_cons e_int es_nil))) es_nil))))))))))) rfl)
  (s_cons (s_ret (e_ix S (q_var rfl rfl rfl) (e_call S rfl rfl rfl rfl rfl rfl (es_cons (q_var rfl rfl rfl) (es_cons e_int es_nil)))))
  s_nil))
  sc := ⟨rfl, rfl, rfl, by decide +kernel, rfl, by decide +kernel, by decide +kernel⟩
  bd := fun _ _ _ _ _ _ us hl => match us, hl with | [_], _ => rfl
  dfl := ⟨rfl, rfl⟩
  le := by decide
def d49 : He.DefD := ⟨("_law_some_row", none), "_law_some_row", "_law_some_row", defArgs (top 62), defBody (top 62), defScope (top 62), [], []⟩
theorem B49 : FnAll Ir.P Ir.names Ir.f49 d49 where
  body := fun G hnm Pm w K mg base fa cdv A outer s H E call fu k S hk hp => (s_cons (q_set S rfl rfl rfl (e_call S rfl rfl rfl rfl rfl rfl (es_cons (q_var rfl rfl rfl) (es_cons e_int es_nil))) rfl)
  (s_cons (s_if (t_eq S rfl (q_var rfl rfl rfl) e_int)
  (s_cons (s_ret (e_call S rfl rfl rfl rfl rfl rfl (es_cons (q_var rfl rfl rfl) (es_cons (q_var rfl rfl rfl) es_nil))))
  s_nil)
  s_nil)
  (s_cons (q_set S rfl rfl rfl (e_listT S rfl (es_cons (e_call S rfl rfl rfl rfl rfl rfl (es_cons (q_var rfl rfl rfl) (es_cons (e_call S rfl rfl rfl rfl rfl rfl (es_cons (q_var rfl rfl rfl) (es_cons (q_var rfl rfl rfl) es_nil))) es_nil))) es_nil)) rfl)
  (s_cons (s_if (t_cmp S (q_var rfl rfl rfl) e_int)
  (s_cons (s_asg (e_call S rfl rfl rfl rfl rfl rfl (es_cons (q_var rfl rfl rfl) es_nil)) (g_sub S (q_var rfl rfl rfl) (e_call S rfl rfl rfl rfl rfl rfl (es_cons (q_var rfl rfl rfl) (es_cons (q_var rfl rfl rfl) es_nil)))))
  s_nil)
  s_nil)
  (s_cons (s_if (t_eq S rfl (q_var rfl rfl rfl) e_int)
  (s_cons (s_setLcT S rfl rfl rfl rfl (blkOk_by (own := [("place", 5)]) (by show blkC Ir.f49.N d49.scope _ _ = true; decide +kernel)) rfl (i_rng S rfl (q_var rfl rfl rfl)) (fun _ _ _ _ _ S => (q_nm S rfl rfl rfl)) (fun _ _ _ _ _ S => c_none) (fun _ _ _ _ _ S => (e_call S rfl rfl rfl rfl rfl rfl (es_cons (q_var rfl rfl rfl) es_nil))))
  s_nil)
  s_nil)
  (s_cons (s_ret (e_biT S rfl rfl (ha := (es_cons (q_var rfl rfl rfl) es_nil))))
  s_nil))))))
  sc := ⟨rfl, rfl, rfl, by decide +kernel, rfl, by decide +kernel, by decide +kernel⟩
  bd := fun _ _ _ _ _ _ us hl => match us, hl with | [_, _, _], _ => rfl
  dfl := ⟨rfl, rfl⟩
  le := by decide
def d50 : He.DefD := ⟨("_law_wish", none), "_law_wish", "_law_wish", defArgs (top 63), defBody (top 63), defScope (top 63), [], []⟩
theorem B50 : FnAll Ir.P Ir.names Ir.f50 d50 where
  body := fun G hnm Pm w K mg base fa cdv A outer s H E call fu k S hk hp => (s_cons (q_set S rfl rfl rfl (e_bin S e_int (e_call S rfl rfl rfl rfl rfl rfl (es_cons (q_var rfl rfl rfl) (es_cons (q_var rfl rfl rfl) es_nil)))) rfl)
  (s_cons (q_set S rfl rfl rfl (e_call S rfl rfl rfl rfl rfl rfl (es_cons (q_var rfl rfl rfl) (es_cons e_int es_nil))) rfl)
  (s_cons (q_set S rfl rfl rfl (e_lc S rfl (blkOk_by (own := [("cell", 6)]) (by show blkC Ir.f50.N d50.scope _ _ = true; decide +kernel)) rfl (i_rng S rfl (q_var rfl rfl rfl)) (fun _ _ _ _ _ S => (q_nm S rfl rfl rfl)) (fun _ _ _ _ _ S => c_none) (fun _ _ _ _ _ S => (e_call S rfl rfl rfl rfl rfl rfl (es_cons (q_var rfl rfl rfl) (es_cons (q_var rfl rfl rfl) (es_cons (q_var rfl rfl rfl) es_nil)))))) rfl)
  (s_cons (s_if (t_eq S rfl (q_var rfl rfl rfl) e_int)
  (s_cons (q_set S rfl rfl rfl (e_lc S rfl (blkOk_by (own := [("source", 7)]) (by show blkC Ir.f50.N d50.scope _ _ = true; decide +kernel)) rfl (i_seq S (e_call S rfl rfl rfl rfl rfl rfl (es_cons (q_var rfl rfl rfl) (es_cons (e_lrng S rfl rfl rfl (q_var rfl rfl rfl)) es_nil)))) (fun _ _ _ _ _ S => (q_nm S rfl rfl rfl)) (fun _ _ _ _ _ S => c_none) (fun _ _ _ _ _ S => (e_call S rfl rfl rfl rfl rfl rfl (es_cons (q_var rfl rfl rfl) (es_cons (q_var rfl rfl rfl) es_nil))))) rfl)
  s_nil)
  s_nil)
  (s_cons (s_if (t_eq S rfl (q_var rfl rfl rfl) e_int)
  (s_cons (q_set S rfl rfl rfl (e_lc S rfl (blkOk_by (own := [("cell", 6)]) (by show blkC Ir.f50.N d50.scope _ _ = true; decide +kernel)) rfl (i_rng S rfl (q_var rfl rfl rfl)) (fun _ _ _ _ _ S => (q_nm S rfl rfl rfl)) (fun _ _ _ _ _ S => c_none) (fun _ _ _ _ _ S => (e_call S rfl rfl rfl rfl rfl rfl (es_cons (q_var rfl rfl rfl) (es_cons (e_call S rfl rfl rfl rfl rfl rfl (es_cons (q_var rfl rfl rfl) (es_cons (q_var rfl rfl rfl) es_nil))) es_nil))))) rfl)
  s_nil)
  s_nil)
  (s_cons (s_if (t_cmp S (q_var rfl rfl rfl) e_int)
  (s_cons (q_set S rfl rfl rfl (e_lc S rfl (blkOk_by (own := [("row", 8)]) (by show blkC Ir.f50.N d50.scope _ _ = true; decide +kernel)) rfl (i_seq S (q_var rfl rfl rfl)) (fun _ _ _ _ _ S => (q_nm S rfl rfl rfl)) (fun _ _ _ _ _ S => c_none) (fun _ _ _ _ _ S => (e_ifx (t_eq S rfl (e_call S rfl rfl rfl rfl rfl rfl (es_cons (q_var rfl rfl rfl) (es_cons e_int es_nil))) e_int) e_non (q_var rfl rfl rfl)))) rfl)
  s_nil)
  s_nil)
  (s_cons (q_set S rfl rfl rfl (e_lst es_nil) rfl)
  (s_cons (s_if (t_eq S rfl (e_call S rfl rfl rfl rfl rfl rfl (es_cons (q_var rfl rfl rfl) (es_cons e_int es_nil))) e_int)
  (s_cons (q_set S rfl rfl rfl (e_lc S rfl (blkOk_by (own := [("cell", 6)]) (by show blkC Ir.f50.N d50.scope _ _ = true; decide +kernel)) rfl (i_rng S rfl (q_var rfl rfl rfl)) (fun _ _ _ _ _ S => (q_nm S rfl rfl rfl)) (fun _ _ _ _ _ S => (c_one (t_eq S rfl (e_call S rfl rfl rfl rfl rfl rfl (es_cons (q_var rfl rfl rfl) (es_cons e_int es_nil))) e_int))) (fun _ _ _ _ _ S => (q_var rfl rfl rfl))) rfl)
  (s_cons (q_set S rfl rfl rfl (e_lc S rfl (blkOk_by (own := [("cell", 6)]) (by show blkC Ir.f50.N d50.scope _ _ = true; decide +kernel)) rfl (i_rng S rfl (q_var rfl rfl rfl)) (fun _ _ _ _ _ S => (q_nm S rfl rfl rfl)) (fun _ _ _ _ _ S => c_none) (fun _ _ _ _ _ S => (e_ifx (t_and (w_and (t_cmp S (q_var rfl rfl rfl) (q_var rfl rfl rfl)) (w_one (t_cmp S (e_call S rfl rfl rfl rfl rfl rfl (es_cons (q_var rfl rfl rfl) (es_cons e_int es_nil))) e_int)))) (e_call S rfl rfl rfl rfl rfl rfl (es_cons (q_var rfl rfl rfl) (es_cons (q_var rfl rfl rfl) es_nil))) (e_ix S (q_var rfl rfl rfl) (q_var rfl rfl rfl))))) rfl)
  s_nil))
  s_nil)
  (s_cons (s_ret (e_tup (es_cons (e_biT S rfl rfl (ha := (es_cons (q_var rfl rfl rfl) es_nil))) (es_cons (e_biT S rfl rfl (ha := (es_cons (q_var rfl rfl rfl) es_nil))) (es_cons (e_ix S (e_lst (es_cons e_int (es_cons e_int (es_cons e_int (es_cons e_int (es_cons e_int es_nil)))))) (e_call S rfl rfl rfl rfl rfl rfl (es_cons (q_var rfl rfl rfl) (es_cons e_int es_nil)))) es_nil)))))
  s_nil)))))))))
  sc := ⟨rfl, rfl, rfl, by decide +kernel, rfl, by decide +kernel, by decide +kernel⟩
  bd := fun _ _ _ _ _ _ us hl => match us, hl with | [_, _], _ => rfl
  dfl := ⟨rfl, rfl⟩
  le := by decide
def d51 : He.DefD := ⟨("_law_made_wish", none), "_law_made_wish", "_law_made_wish", defArgs (top 64), defBody (top 64), defScope (top 64), [], []⟩
theorem B51 : FnAll Ir.P Ir.names Ir.f51 d51 where
  body := fun G hnm Pm w K mg base fa cdv A outer s H E call fu k S hk hp => (s_cons (s_ret (e_mk S rfl rfl rfl rfl rfl rfl rfl (es_cons (e_ix S (q_var rfl rfl rfl) e_int) (es_cons (e_ix S (q_var rfl rfl rfl) e_int) (es_cons (e_ix S (q_var rfl rfl rfl) e_int) es_nil)))))
  s_nil)
  sc := ⟨rfl, rfl, rfl, by decide +kernel, rfl, by decide +kernel, by decide +kernel⟩
  bd := fun _ _ _ _ _ _ us hl => match us, hl with | [_], _ => rfl
  dfl := ⟨rfl, rfl⟩
  le := by decide
def d52 : He.DefD := ⟨("_law_all_cells", none), "_law_all_cells", "_law_all_cells", defArgs (top 65), defBody (top 65), defScope (top 65), [], []⟩
theorem B52 : FnAll Ir.P Ir.names Ir.f52 d52 where
  body := fun G hnm Pm w K mg base fa cdv A outer s H E call fu k S hk hp => (s_cons (s_ret (e_bin S (e_biB S rfl rfl (ha := (es_cons (e_ix S (q_var rfl rfl rfl) e_int) es_nil))) (e_ix S (q_var rfl rfl rfl) e_int)))
  s_nil)
  sc := ⟨rfl, rfl, rfl, by decide +kernel, rfl, by decide +kernel, by decide +kernel⟩
  bd := fun _ _ _ _ _ _ us hl => match us, hl with | [_], _ => rfl
  dfl := ⟨rfl, rfl⟩
  le := by decide
def d53 : He.DefD := ⟨("_law_stages", none), "_law_stages", "_law_stages", defArgs (top 66), defBody (top 66), defScope (top 66), [], []⟩
theorem B53 : FnAll Ir.P Ir.names Ir.f53 d53 where
  body := fun G hnm Pm w K mg base fa cdv A outer s H E call fu k S hk hp => (s_cons (q_set S rfl rfl rfl (e_lstT es_nil) rfl)
  (s_cons (s_for S rfl hp (i_rng S rfl (e_call S rfl rfl rfl rfl rfl rfl (es_cons (q_var rfl rfl rfl) es_nil))) (q_nm S rfl rfl rfl)
  (s_cons (q_set S rfl rfl rfl (e_and (e_and2 S (e_cmp S (q_var rfl rfl rfl) (e_biB S rfl rfl (ha := (es_cons (e_ix S (q_var rfl rfl rfl) e_int) es_nil)))) (e_one (e_isi S rfl (e_ix S (e_ix S (q_var rfl rfl rfl) e_int) (q_var rfl rfl rfl)) (ty_b S rfl))))) rfl)
  (s_cons (q_set S rfl rfl rfl e_str rfl)
  (s_cons (s_if (t_cmp S (q_var rfl rfl rfl) (e_sl S (q_var rfl rfl rfl) o_none (o_some (q_var rfl rfl rfl))))
  (s_cons (q_set S rfl rfl rfl e_str rfl)
  s_nil)
  (s_cons (s_if (t_and (w_and (t_val S (q_var rfl rfl rfl)) (w_one (t_cmp S (q_var rfl rfl rfl) (e_sl S (q_var rfl rfl rfl) (o_some (q_var rfl rfl rfl)) o_none)))))
  (s_cons (q_set S rfl rfl rfl e_str rfl)
  s_nil)
  s_nil)
  s_nil))
  (s_cons (s_expr (e_append S (q_var rfl rfl rfl) (es_cons (q_var rfl rfl rfl) es_nil)))
  s_nil)))))
  (s_cons (s_ret (e_biT S rfl rfl (ha := (es_cons (q_var rfl rfl rfl) es_nil))))
  s_nil)))
  sc := ⟨rfl, rfl, rfl, by decide +kernel, rfl, by decide +kernel, by decide +kernel⟩
  bd := fun _ _ _ _ _ _ us hl => match us, hl with | [_, _, _], _ => rfl
  dfl := ⟨rfl, rfl⟩
  le := by decide
def d54 : He.DefD := ⟨("_law_safe", none), "_law_safe", "_law_safe", defArgs (top 67), defBody (top 67), defScope (top 67), [], []⟩
theorem B54 : FnAll Ir.P Ir.names Ir.f54 d54 where
  body := fun G hnm Pm w K mg base fa cdv A outer s H E call fu k S hk hp => (s_cons (q_set S rfl rfl rfl (e_biB S rfl rfl (ha := (es_cons (e_ix S (q_var rfl rfl rfl) e_int) es_nil))) rfl)
  (s_cons (s_setLc S rfl rfl rfl rfl (blkOk_by (own := [("cell", 4)]) (by show blkC Ir.f54.N d54.scope _ _ = true; decide +kernel)) rfl (i_rng S rfl (q_var rfl rfl rfl)) (fun _ _ _ _ _ S => (q_nm S rfl rfl rfl)) (fun _ _ _ _ _ S => (c_one (t_eq S rfl (e_ix S (q_var rfl rfl rfl) (q_var rfl rfl rfl)) e_str))) (fun _ _ _ _ _ S => (e_call S rfl rfl rfl rfl rfl rfl (es_cons (q_var rfl rfl rfl) (es_cons (q_var rfl rfl rfl) es_nil)))))
  (s_cons (s_ret (e_bin S (q_var rfl rfl rfl) (e_lc S rfl (blkOk_by (own := [("cell", 4)]) (by show blkC Ir.f54.N d54.scope _ _ = true; decide +kernel)) rfl (i_rng S rfl (q_var rfl rfl rfl)) (fun _ _ _ _ _ S => (q_nm S rfl rfl rfl)) (fun _ _ _ _ _ S => (c_one (t_eq S rfl (e_ix S (q_var rfl rfl rfl) (q_var rfl rfl rfl)) e_str))) (fun _ _ _ _ _ S => (e_ix S (e_ix S (q_var rfl rfl rfl) e_int) (q_var rfl rfl rfl))))))
  s_nil)))
  sc := ⟨rfl, rfl, rfl, by decide +kernel, rfl, by decide +kernel, by decide +kernel⟩
  bd := fun _ _ _ _ _ _ us hl => match us, hl with | [_, _], _ => rfl
  dfl := ⟨rfl, rfl⟩
  le := by decide
def d55 : He.DefD := ⟨("_law_wished", none), "_law_wished", "_law_wished", defArgs (top 68), defBody (top 68), defScope (top 68), [], []⟩
theorem B55 : FnAll Ir.P Ir.names Ir.f55 d55 where
  body := fun G hnm Pm w K mg base fa cdv A outer s H E call fu k S hk hp => (s_cons (s_ret (e_lc S rfl (blkOk_by (own := [("cell", 1)]) (by show blkC Ir.f55.N d55.scope _ _ = true; decide +kernel)) rfl (i_rng S rfl (e_biB S rfl rfl (ha := (es_cons (e_ix S (q_var rfl rfl rfl) e_int) es_nil)))) (fun _ _ _ _ _ S => (q_nm S rfl rfl rfl)) (fun _ _ _ _ _ S => (c_one (t_val S (e_isi S rfl (e_ix S (e_ix S (q_var rfl rfl rfl) e_int) (q_var rfl rfl rfl)) (ty_b S rfl))))) (fun _ _ _ _ _ S => (q_var rfl rfl rfl))))
  s_nil)
  sc := ⟨rfl, rfl, rfl, by decide +kernel, rfl, by decide +kernel, by decide +kernel⟩
  bd := fun _ _ _ _ _ _ us hl => match us, hl with | [_], _ => rfl
  dfl := ⟨rfl, rfl⟩
  le := by decide
def d56 : He.DefD := ⟨("_law_lack", none), "_law_lack", "_law_lack", defArgs (top 69), defBody (top 69), defScope (top 69), [], []⟩
theorem B56 : FnAll Ir.P Ir.names Ir.f56 d56 where
  body := fun G hnm Pm w K mg base fa cdv A outer s H E call fu k S hk hp => (s_cons (q_set S rfl rfl rfl (e_call S rfl rfl rfl rfl rfl rfl (es_cons (q_var rfl rfl rfl) (es_cons (q_var rfl rfl rfl) es_nil))) rfl)
  (s_cons (s_setLc S rfl rfl rfl rfl (blkOk_by (own := [("cell", 4)]) (by show blkC Ir.f56.N d56.scope _ _ = true; decide +kernel)) rfl (i_seq S (e_call S rfl rfl rfl rfl rfl rfl (es_cons (q_var rfl rfl rfl) es_nil))) (fun _ _ _ _ _ S => (q_nm S rfl rfl rfl)) (fun _ _ _ _ _ S => c_none) (fun _ _ _ _ _ S => (e_ix S (e_ix S (q_var rfl rfl rfl) e_int) (q_var rfl rfl rfl))))
  (s_cons (s_ret (e_tup (es_cons (e_bin S (e_call S rfl rfl rfl rfl rfl rfl (es_cons (e_bin S (q_var rfl rfl rfl) (q_var rfl rfl rfl)) es_nil)) (e_call S rfl rfl rfl rfl rfl rfl (es_cons (q_var rfl rfl rfl) es_nil))) (es_cons (e_biB S rfl rfl (ha := (es_cons (e_lc S rfl (blkOk_by (own := [("word", 5)]) (by show blkC Ir.f56.N d56.scope _ _ = true; decide +kernel)) rfl (i_seq S (q_var rfl rfl rfl)) (fun _ _ _ _ _ S => (q_nm S rfl rfl rfl)) (fun _ _ _ _ _ S => (c_one (t_eq S rfl (q_var rfl rfl rfl) e_str))) (fun _ _ _ _ _ S => (q_var rfl rfl rfl))) es_nil))) es_nil))))
  s_nil)))
  sc := ⟨rfl, rfl, rfl, by decide +kernel, rfl, by decide +kernel, by decide +kernel⟩
  bd := fun _ _ _ _ _ _ us hl => match us, hl with | [_, _], _ => rfl
  dfl := ⟨rfl, rfl⟩
  le := by decide
def d57 : He.DefD := ⟨("_law_order", none), "_law_order", "_law_order", defArgs (top 70), defBody (top 70), defScope (top 70), [], []⟩
theorem B57 : FnAll Ir.P Ir.names Ir.f57 d57 where
  body := fun G hnm Pm w K mg base fa cdv A outer s H E call fu k S hk hp => (s_cons (q_set S rfl rfl rfl (e_call S rfl rfl rfl rfl rfl rfl (es_cons (q_var rfl rfl rfl) es_nil)) rfl)
  (s_cons (s_setLc S rfl rfl rfl rfl (blkOk_by (own := [("cell", 6)]) (by show blkC Ir.f57.N d57.scope _ _ = true; decide +kernel)) rfl (i_seq S (e_call S rfl rfl rfl rfl rfl rfl (es_cons (q_var rfl rfl rfl) (es_cons (e_lrng S rfl rfl rfl (q_var rfl rfl rfl)) es_nil)))) (fun _ _ _ _ _ S => (q_nm S rfl rfl rfl)) (fun _ _ _ _ _ S => (c_one (t_cmp S (q_var rfl rfl rfl) (e_ix S (q_var rfl rfl rfl) e_int)))) (fun _ _ _ _ _ S => (q_var rfl rfl rfl)))
  (s_cons (q_set S rfl rfl rfl (e_bin S (q_var rfl rfl rfl) (e_sl S (e_rev S (q_var rfl rfl rfl)) (o_some e_int) o_none)) rfl)
  (s_cons (q_set S rfl rfl rfl (e_call S rfl rfl rfl rfl rfl rfl (es_cons (q_var rfl rfl rfl) (es_cons e_int es_nil))) rfl)
  (s_cons (s_if (t_eq S rfl (q_var rfl rfl rfl) e_int)
  (s_cons (s_setLc S rfl rfl rfl rfl (blkOk_by (own := [("turn", 7)]) (by show blkC Ir.f57.N d57.scope _ _ = true; decide +kernel)) rfl (i_rng S rfl (e_call S rfl rfl rfl rfl rfl rfl (es_cons (q_var rfl rfl rfl) (es_cons e_int es_nil)))) (fun _ _ _ _ _ S => (q_nm S rfl rfl rfl)) (fun _ _ _ _ _ S => c_none) (fun _ _ _ _ _ S => (e_call S rfl rfl rfl rfl rfl rfl (es_cons (q_var rfl rfl rfl) (es_cons (q_var rfl rfl rfl) es_nil)))))
  s_nil)
  s_nil)
  (s_cons (s_if (t_eq S rfl (q_var rfl rfl rfl) e_int)
  (s_cons (s_setLc S rfl rfl rfl rfl (blkOk_by (own := [("cell", 6)]) (by show blkC Ir.f57.N d57.scope _ _ = true; decide +kernel)) rfl (i_seq S (q_var rfl rfl rfl)) (fun _ _ _ _ _ S => (q_nm S rfl rfl rfl)) (fun _ _ _ _ _ S => (c_one (t_cmp S (e_call S rfl rfl rfl rfl rfl rfl (es_cons (q_var rfl rfl rfl) (es_cons e_int es_nil))) e_int))) (fun _ _ _ _ _ S => (q_var rfl rfl rfl)))
  s_nil)
  s_nil)
  (s_cons (s_if (t_eq S rfl (q_var rfl rfl rfl) e_int)
  (s_cons (q_set S rfl rfl rfl (e_bin S (q_var rfl rfl rfl) (e_sl S (q_var rfl rfl rfl) o_none (o_some (e_call S rfl rfl rfl rfl rfl rfl (es_cons (q_var rfl rfl rfl) (es_cons (e_bin S (e_biB S rfl rfl (ha := (es_cons (q_var rfl rfl rfl) es_nil))) e_int) es_nil)))))) rfl)
  s_nil)
  s_nil)
  (s_cons (s_if (t_eq S rfl (q_var rfl rfl rfl) e_int)
  (s_cons (q_set S rfl rfl rfl (e_bin S (e_sl S (q_var rfl rfl rfl) o_none (o_some e_int)) (e_rev S (q_var rfl rfl rfl))) rfl)
  s_nil)
  s_nil)
  (s_cons (s_ret (e_biT S rfl rfl (ha := (es_cons (q_var rfl rfl rfl) es_nil))))
  s_nil)))))))))
  sc := ⟨rfl, rfl, rfl, by decide +kernel, rfl, by decide +kernel, by decide +kernel⟩
  bd := fun _ _ _ _ _ _ us hl => match us, hl with | [_, _], _ => rfl
  dfl := ⟨rfl, rfl⟩
  le := by decide
def d58 : He.DefD := ⟨("_law_is_int", none), "_law_is_int", "_law_is_int", defArgs (top 71), defBody (top 71), defScope (top 71), [], []⟩
theorem B58 : FnAll Ir.P Ir.names Ir.f58 d58 where
  body := fun G hnm Pm w K mg base fa cdv A outer s H E call fu k S hk hp => (s_cons (s_ret (e_and (e_and2 S (e_isi S rfl (q_var rfl rfl rfl) (ty_b S rfl)) (e_and2 S (e_not S (e_isi S rfl (q_var rfl rfl rfl) (ty_b S rfl))) (e_one (e_chain S (q_var rfl rfl rfl) (q_var rfl rfl rfl) (q_var rfl rfl rfl)))))))
  s_nil)
  sc := ⟨rfl, rfl, rfl, by decide +kernel, rfl, by decide +kernel, by decide +kernel⟩
  bd := fun _ _ _ _ _ _ us hl => match us, hl with | [_, _, _], _ => rfl
  dfl := ⟨rfl, rfl⟩
  le := by decide
def d59 : He.DefD := ⟨("_law_is_order", none), "_law_is_order", "_law_is_order", defArgs (top 72), defBody (top 72), defScope (top 72), [], []⟩
theorem B59 : FnAll Ir.P Ir.names Ir.f59 d59 where
  body := fun G hnm Pm w K mg base fa cdv A outer s H E call fu k S hk hp => (s_cons (s_if (t_or (w_or (t_not (t_val S (e_isi S rfl (q_var rfl rfl rfl) (ty_b S rfl)))) (w_oneO (t_cmp S (e_biB S rfl rfl (ha := (es_cons (q_var rfl rfl rfl) es_nil))) e_int))))
  (s_cons (s_ret e_bl)
  s_nil)
  s_nil)
  (s_cons (s_ret (e_biB S rfl rfl (ha := (es_cons (e_lc S rfl (blkOk_by (own := [("cell", 2)]) (by show blkC Ir.f59.N d59.scope _ _ = true; decide +kernel)) rfl (i_seq S (q_var rfl rfl rfl)) (fun _ _ _ _ _ S => (q_nm S rfl rfl rfl)) (fun _ _ _ _ _ S => c_none) (fun _ _ _ _ _ S => (e_call S rfl rfl rfl rfl rfl rfl (es_cons (q_var rfl rfl rfl) (es_cons e_int (es_cons (e_bin S (e_call S rfl rfl rfl rfl rfl rfl (es_cons (q_var rfl rfl rfl) es_nil)) e_int) es_nil)))))) es_nil))))
  s_nil))
  sc := ⟨rfl, rfl, rfl, by decide +kernel, rfl, by decide +kernel, by decide +kernel⟩
  bd := fun _ _ _ _ _ _ us hl => match us, hl with | [_, _], _ => rfl
  dfl := ⟨rfl, rfl⟩
  le := by decide
def d60 : He.DefD := ⟨("_law_word", none), "_law_word", "_law_word", defArgs (top 73), defBody (top 73), defScope (top 73), [], []⟩
theorem B60 : FnAll Ir.P Ir.names Ir.f60 d60 where
  body := fun G hnm Pm w K mg base fa cdv A outer s H E call fu k S hk hp => (s_cons (q_set S rfl rfl rfl e_str rfl)
  (s_cons (s_try S rfl rfl rfl rfl rfl rfl rfl rfl (fun W1 pn xe S Sn ps => (b_if (t_eq S rfl (q_var rfl rfl rfl) e_int) (b_one (b_expr (e_call S rfl rfl rfl rfl rfl rfl (es_cons (q_var rfl rfl rfl) (es_cons (q_var rfl rfl rfl) (es_cons (q_var rfl rfl rfl) es_nil))))) s_nil) (b_one (b_expr (e_call S rfl rfl rfl rfl rfl rfl (es_cons (q_var rfl rfl rfl) (es_cons (q_var rfl rfl rfl) (es_cons (q_var rfl rfl rfl) es_nil))))) s_nil) s_nil))
  (fun a0 oe cls dx pn hz hf S => (s_cons (q_set S rfl rfl rfl (e_lst (es_cons (e_isx S hz hf rfl (q_var rfl rfl rfl) (ty_c S rfl rfl rfl)) (es_cons (e_isx S hz hf rfl (q_var rfl rfl rfl) (ty_c S rfl rfl rfl)) es_nil))) rfl)
  (s_cons (q_set S rfl rfl rfl (e_ifx (t_cmpd S (e_count S (q_var rfl rfl rfl) (es_cons e_bl es_nil)) e_int) (e_ix S (e_lst (es_cons e_str (es_cons e_str es_nil))) (e_index S (q_var rfl rfl rfl) (es_cons e_bl es_nil))) e_str) rfl)
  s_nil))))
  (s_cons (s_ret (q_var rfl rfl rfl))
  s_nil)))
  sc := ⟨rfl, rfl, rfl, by decide +kernel, rfl, by decide +kernel, by decide +kernel⟩
  bd := fun _ _ _ _ _ _ us hl => match us, hl with | [_, _, _, _], _ => rfl
  dfl := ⟨rfl, rfl⟩
  le := by decide
def d61 : He.DefD := ⟨("_law_refused_right", none), "_law_refused_right", "_law_refused_right", defArgs (top 74), defBody (top 74), defScope (top 74), [], []⟩
theorem B61 : FnAll Ir.P Ir.names Ir.f61 d61 where
  body := fun G hnm Pm w K mg base fa cdv A outer s H E call fu k S hk hp => (s_cons (q_set S rfl rfl rfl (e_call S rfl rfl rfl rfl rfl rfl (es_cons (q_var rfl rfl rfl) es_nil)) rfl)
  (s_cons (q_set S rfl rfl rfl (e_lst (es_cons (q_var rfl rfl rfl) (es_cons (e_bin S (q_var rfl rfl rfl) (e_tup (es_cons (q_var rfl rfl rfl) es_nil))) (es_cons (e_bin S (q_var rfl rfl rfl) (e_tup (es_cons (e_neg e_int) es_nil))) (es_cons (e_bin S (q_var rfl rfl rfl) (e_tup (es_cons e_bl es_nil))) (es_cons (e_biT S rfl rfl (ha := (es_cons (q_var rfl rfl rfl) es_nil))) (es_cons e_non (es_cons (e_bin S (e_tup (es_cons e_int es_nil)) e_int) (es_cons (e_bin S (e_tup (es_cons e_int es_nil)) e_int) (es_cons e_str (es_cons e_dic0 (es_cons (e_call0 S rfl rfl rfl rfl rfl rfl) (es_cons (e_tup (es_cons (e_tup (es_cons e_int es_nil)) es_nil)) es_nil))))))))))))) rfl)
  (s_cons (q_set S rfl rfl rfl (e_ix S (q_var rfl rfl rfl) (e_call S rfl rfl rfl rfl rfl rfl (es_cons (q_var rfl rfl rfl) (es_cons e_int es_nil)))) rfl)
  (s_cons (q_set S rfl rfl rfl (e_ix S (e_lst (es_cons e_int (es_cons e_int (es_cons (e_biB S rfl rfl (ha := (es_cons (q_var rfl rfl rfl) es_nil))) (es_cons (e_bin S (e_biB S rfl rfl (ha := (es_cons (q_var rfl rfl rfl) es_nil))) e_int) (es_cons (e_neg e_int) (es_cons e_bl (es_cons e_non (es_cons e_str (es_cons (e_tup (es_cons e_int es_nil)) (es_cons (e_bin S e_int e_int) (es_cons (e_call0 S rfl rfl rfl rfl rfl rfl) (es_cons e_int es_nil))))))))))))) (e_call S rfl rfl rfl rfl rfl rfl (es_cons (q_var rfl rfl rfl) (es_cons e_int es_nil)))) rfl)
  (s_cons (q_set S rfl rfl rfl e_str rfl)
  (s_cons (s_if (t_val S (e_call S rfl rfl rfl rfl rfl rfl (es_cons (q_var rfl rfl rfl) (es_cons (q_var rfl rfl rfl) es_nil))))
  (s_cons (q_set S rfl rfl rfl (e_ifx (t_val S (e_call S rfl rfl rfl rfl rfl rfl (es_cons (q_var rfl rfl rfl) (es_cons e_int (es_cons (e_biB S rfl rfl (ha := (es_cons (q_var rfl rfl rfl) es_nil))) es_nil))))) e_str e_str) rfl)
  s_nil)
  s_nil)
  (s_cons (s_ret (e_eq S rfl (e_lc S rfl (blkOk_by (own := [("which", 9)]) (by show blkC Ir.f61.N d61.scope _ _ = true; decide +kernel)) rfl (i_rng S rfl e_int) (fun _ _ _ _ _ S => (q_nm S rfl rfl rfl)) (fun _ _ _ _ _ S => c_none) (fun _ _ _ _ _ S => (e_call S rfl rfl rfl rfl rfl rfl (es_cons (q_var rfl rfl rfl) (es_cons (q_var rfl rfl rfl) (es_cons (q_var rfl rfl rfl) (es_cons (q_var rfl rfl rfl) es_nil))))))) (e_lst (es_cons (q_var rfl rfl rfl) (es_cons (q_var rfl rfl rfl) es_nil)))))
  s_nil)))))))
  sc := ⟨rfl, rfl, rfl, by decide +kernel, rfl, by decide +kernel, by decide +kernel⟩
  bd := fun _ _ _ _ _ _ us hl => match us, hl with | [_, _, _, _], _ => rfl
  dfl := ⟨rfl, rfl⟩
  le := by decide
def d62 : He.DefD := ⟨("law", none), "law", "law", defArgs (top 75), defBody (top 75), defScope (top 75), [], []⟩
theorem B62 : FnAll Ir.P Ir.names Ir.f62 d62 where
  body := fun G hnm Pm w K mg base fa cdv A outer s H E call fu k S hk hp => (s_cons (q_set S rfl rfl rfl (e_call S rfl rfl rfl rfl rfl rfl (es_cons (q_var rfl rfl rfl) es_nil)) rfl)
  (s_cons (s_for S rfl hp (i_rng S rfl e_int) (q_nm S rfl rfl rfl)
  (s_cons (q_set S rfl rfl rfl (e_call S rfl rfl rfl rfl rfl rfl (es_cons (q_var rfl rfl rfl) (es_cons e_int es_nil))) rfl)
  (s_cons (q_set S rfl rfl rfl (e_call S rfl rfl rfl rfl rfl rfl (es_cons (q_var rfl rfl rfl) es_nil)) rfl)
  (s_cons (q_set S rfl rfl rfl (e_call S rfl rfl rfl rfl rfl rfl (es_cons (q_var rfl rfl rfl) (es_cons (q_var rfl rfl rfl) es_nil))) rfl)
  (s_cons (s_if (t_and (w_and (t_eq S rfl (q_var rfl rfl rfl) e_int) (w_one (t_eq S rfl (e_call S rfl rfl rfl rfl rfl rfl (es_cons (q_var rfl rfl rfl) (es_cons e_int es_nil))) e_int))))
  (s_cons (q_set S rfl rfl rfl (e_biT S rfl rfl (ha := (es_cons (e_lc S rfl (blkOk_by (own := [("place", 9)]) (by show blkC Ir.f62.N d62.scope _ _ = true; decide +kernel)) rfl (i_rng S rfl (e_bin S e_int (e_call S rfl rfl rfl rfl rfl rfl (es_cons (q_var rfl rfl rfl) (es_cons e_int es_nil))))) (fun _ _ _ _ _ S => (q_nm S rfl rfl rfl)) (fun _ _ _ _ _ S => c_none) (fun _ _ _ _ _ S => (e_call S rfl rfl rfl rfl rfl rfl (es_cons (q_var rfl rfl rfl) (es_cons (e_call S rfl rfl rfl rfl rfl rfl (es_cons (q_var rfl rfl rfl) es_nil)) es_nil))))) es_nil))) rfl)
  s_nil)
  s_nil)
  (s_cons (s_for S rfl hp (i_rng S rfl (e_bin S (e_biB S rfl rfl (ha := (es_cons (q_var rfl rfl rfl) es_nil))) e_int)) (q_nm S rfl rfl rfl)
  (s_cons (q_set S rfl rfl rfl (e_call S rfl rfl rfl rfl rfl rfl (es_cons (q_var rfl rfl rfl) (es_cons (q_var rfl rfl rfl) (es_cons (q_var rfl rfl rfl) es_nil)))) rfl)
  (s_cons (s_if (t_or (w_or (t_not (t_val S (e_call S rfl rfl rfl rfl rfl rfl (es_cons (e_call S rfl rfl rfl rfl rfl rfl (es_cons (q_var rfl rfl rfl) (es_cons (q_var rfl rfl rfl) (es_cons (q_var rfl rfl rfl) es_nil)))) (es_cons (q_var rfl rfl rfl) es_nil))))) (w_oneO (t_not (t_val S (e_call S rfl rfl rfl rfl rfl rfl (es_cons (e_call S rfl rfl rfl rfl rfl rfl (es_cons (q_var rfl rfl rfl) (es_cons (q_var rfl rfl rfl) (es_cons (q_var rfl rfl rfl) es_nil)))) (es_cons (e_call S rfl rfl rfl rfl rfl rfl (es_cons (q_var rfl rfl rfl) (es_cons (q_var rfl rfl rfl) es_nil))) es_nil))))))))
  (s_cons (s_ret e_bl)
  s_nil)
  s_nil)
  s_nil)))
  (s_cons (s_for S rfl hp (i_rng S rfl e_int) (q_nm S rfl rfl rfl)
  (s_cons (s_if (t_not (t_val S (e_call S rfl rfl rfl rfl rfl rfl (es_cons (q_var rfl rfl rfl) (es_cons (q_var rfl rfl rfl) (es_cons (q_var rfl rfl rfl) (es_cons (q_var rfl rfl rfl) es_nil)))))))
  (s_cons (s_ret e_bl)
  s_nil)
  s_nil)
  s_nil))
  s_nil)))))))
  (s_cons (s_ret e_bl)
  s_nil)))
  sc := ⟨rfl, rfl, rfl, by decide +kernel, rfl, by decide +kernel, by decide +kernel⟩
  bd := fun _ _ _ _ _ _ us hl => match us, hl with | [_], _ => rfl
  dfl := ⟨rfl, rfl⟩
  le := by decide
def fn : List He.DefD := [d0, d1, d2, d3, d4, d5, d6, d7, d8, d9, d10, d11, d12, d13, d14, d15, d16, d17, d18, d19, d20, d21, d22, d23, d24, d25, d26, d27, d28, d29, d30, d31, d32, d33, d34, d35, d36, d37, d38, d39, d40, d41, d42, d43, d44, d45, d46, d47, d48, d49, d50, d51, d52, d53, d54, d55, d56, d57, d58, d59, d60, d61, d62]
theorem all : AllF Ir.P Ir.names Ir.P.fns fn := .cons B0 (.cons B1 (.cons B2 (.cons B3 (.cons B4 (.cons B5 (.cons B6 (.cons B7 (.cons B8 (.cons B9 (.cons B10 (.cons B11 (.cons B12 (.cons B13 (.cons B14 (.cons B15 (.cons B16 (.cons B17 (.cons B18 (.cons B19 (.cons B20 (.cons B21 (.cons B22 (.cons B23 (.cons B24 (.cons B25 (.cons B26 (.cons B27 (.cons B28 (.cons B29 (.cons B30 (.cons B31 (.cons B32 (.cons B33 (.cons B34 (.cons B35 (.cons B36 (.cons B37 (.cons B38 (.cons B39 (.cons B40 (.cons B41 (.cons B42 (.cons B43 (.cons B44 (.cons B45 (.cons B46 (.cons B47 (.cons B48 (.cons B49 (.cons B50 (.cons B51 (.cons B52 (.cons B53 (.cons B54 (.cons B55 (.cons B56 (.cons B57 (.cons B58 (.cons B59 (.cons B60 (.cons B61 (.cons B62 (.nil)))))))))))))))))))))))))))))))))))))))))))))))))))))))))))))))
theorem X1 : XInit Ir.P Ir.names Ir.f1 d1 1 := ⟨⟨rfl, rfl⟩, by decide, fun Pm w K mg base fa cdv A outer s H E => pss_one (ps_ost (pv 0) (pv 1))⟩
theorem xi : AllXI Ir.P Ir.names fn := .plain (by intro f h; cases h) (.own rfl rfl rfl rfl X1 (.plain (by intro f h; cases h) (.plain (by intro f h; cases h) (.plain (by intro f h; cases h) (.plain (by intro f h; cases h) (.nil))))))
end Dv
namespace Hd
open PySem PySem.Spec PyProof.Rows L2 RI
abbrev R : PySem.W.OpenRow := PySem.W.OpenLaw.row PySem.Challenge.rw_oncetwice_k07_whole_stages_and_lacks
def exb (K : PySem.W.Frag) : Bool := RI.ex Ir.P Dv.fn Ir.names K && RI.exX Ir.P Dv.fn Ir.names K && RI.tabsB Ir.P K
abbrev hk : PySem.W.Hook := He.hookX 4 [] Dv.fn (RI.tabsOf Ir.P) [] exb
def ob (s : PySem.W.SharedT) : He.AlX := He.obsX 4 [] Dv.fn (RI.tabsOf Ir.P) [] exb (HandSHeadRun.getT s)
theorem ob_eq (s : PySem.W.SharedT) : ob s = hk.obs s.abs := He.obsX_eq (HandSHeadRun.getT_eq s)
def names : List Str := (["_wall", "CellError", "BadWish", "NoOrder", "NoMoment", "is_integer", "is_within", "is_pair", "is_sized", "is_lot", "NOUGHT", "ONE", "divisor", "is_number", "is_row", "unit_row", "whole", "lighter", "leading", "Steps", "free_places", "MOST_CELLS", "MOST_SPARE", "Wish", "own_cells", "all_cells", "wished_cells", "MOST_ORDER", "NOT_BEGUN", "DONE"] : List Str) ++ (["AMID", "is_order", "check_order", "ticks_of", "stage_of", "stages_at", "safe_rows", "free_cells", "amid_cells", "lack_at", "stages", "lack", "_law_pool", "_law_draw", "_law_mixed", "_law_deep", "_law_is", "_law_low", "_law_add", "_law_mul", "_law_unit", "_law_left", "_law_steps", "_law_rank", "_law_number", "_law_some_row", "_law_wish", "_law_made_wish", "_law_all_cells", "_law_stages"] : List Str) ++ (["_law_safe", "_law_wished", "_law_lack", "_law_order", "_law_is_int", "_law_is_order", "_law_word", "_law_refused_right"] : List Str)
theorem run (w : World) : HandSHeadRun.RunEq R (PySem.W.view R.prog [75]) hk ob 20000 names w := by
  intro os
  kernel_rfl
end Hd
open PySem PySem.W PySem.Calls PyProof.Rows in
theorem law_of (law : ∀ xs : List Int, xs.length ≤ 63 → ∃ S', RI.callF Ir.P 10000000000 40 Ir.lawId [.scr xs] [] = .ok (.d (.bl true)) S') : PySem.Challenge.rw_oncetwice_k07_whole_stages_and_lacks.Holds := by
  w_on; o_law
  refine HandSHeadRun.head_any (r := OpenLaw.row PySem.Challenge.rw_oncetwice_k07_whole_stages_and_lacks) (q := view (OpenLaw.row PySem.Challenge.rw_oncetwice_k07_whole_stages_and_lacks).prog [75]) (H := Hd.hk) (ob := Hd.ob) (M := 20000) (loose := Hd.names) (d := HandSHeadRun.topDef (OpenLaw.row PySem.Challenge.rw_oncetwice_k07_whole_stages_and_lacks).prog 75) (kwd := []) Hd.ob_eq
    (by kernel_rfl) (fun s => by kernel_rfl) Hd.run (by kernel_rfl) (by kernel_rfl) (by kernel_rfl) (by rfl) (by first | assumption | decide +kernel) (by decide +kernel) ⟨rfl, rfl, rfl, rfl, rfl, by decide +kernel⟩ ?hw ?hc
  case hw => w_witness2
  case hc =>
    refine RI.walkG (l := PySem.Challenge.rw_oncetwice_k07_whole_stages_and_lacks) (n := 63) (k := 2 * 40 + 2) (x := "script") (cx := L2.CX0) rfl (by decide) (by kernel_rfl) ⟨rfl, by decide, by decide⟩ ?F (fun _ _ _ _ z => z)
    intro w mg fa h Y Gm hmg0
    obtain ⟨K, KX, c⟩ := Y
    have hmg : mg ("law" : PySem.Str) = some (.ref fa) := by
      have e : (HandSHeadRun.topDef (OpenLaw.row PySem.Challenge.rw_oncetwice_k07_whole_stages_and_lacks).prog 75).name = ("law" : PySem.Str) := by kernel_rfl
      rw [← e]
      exact hmg0
    obtain ⟨fd, sp, hb, h1, hF⟩ := RI.law_facts (P := Ir.P) (ds := Dv.fn) (ns := Ir.names) (Pm := (PySem.Challenge.rw_oncetwice_k07_whole_stages_and_lacks).prog) (w := w) (fu := 10000000000) (n := 40) (lid := Ir.lawId) (fd := Ir.f62) (ld := Dv.d62) (mg := mg) (fA := fa) (RI.hts_of KX Gm c.t (Bool.and_eq_true_iff.mp c.more).2) KX Gm Dv.all Dv.xi (by decide +kernel) rfl rfl rfl rfl rfl hmg c.t.d (Bool.and_eq_true_iff.mp (Bool.and_eq_true_iff.mp c.more).1).1 (Bool.and_eq_true_iff.mp (Bool.and_eq_true_iff.mp c.more).1).2 law
    exact ⟨K, fd, sp, KX, hb, h1, hF⟩
/-! PU: running the evaluator by simp. -/
namespace RI
/-- what stands by a thing, so that simp leaves the thing as it is -/
structure Tag {α : Type} (a : α) : Type where
/-- bind, whose way on simp leaves as it is -/
def Res.bnd {α β : Type} (r : Res α) (f : α → Store → Res β) (_u : Tag f := Tag.mk) : Res β := r.bind f
section
variable {α β : Type} {f : α → Store → Res β} {u : Tag f}
@[simp] theorem bnd_ok {a : α} {S : Store} : (Res.ok a S).bnd f u = f a S := id rfl
@[simp] theorem bnd_stk : (Res.stk : Res α).bnd f u = .stk := id rfl
@[simp] theorem bnd_exc {c : Nat} {fs : List (Nat × D)} {S : Store} : (Res.exc c fs S : Res α).bnd f u = .exc c fs S := id rfl
@[simp ↓] theorem bind_bnd {r : Res α} : r.bind f = r.bnd f := id rfl
end
section
variable {C : Ctx} {η : Env} {S : Store}
theorem mkV1 (f : Env → Store → Res W) : (mkV f).1 η S = f η S := id rfl
theorem mkV2 (f : Env → Store → Res W) : (mkV f).2 η S = (f η S).bnd fun x S1 => ofO (truthy x S1) S1 := id rfl
@[simp] theorem ev_var {i} : (evalP C (.var i)).1 η S = ofO (getV η i) S := id rfl
@[simp] theorem ev_var_t {i} : (evalP C (.var i)).2 η S = ((evalP C (.var i)).1 η S).bnd fun x S1 => ofO (truthy x S1) S1 := id rfl
@[simp] theorem ev_glob {k} : (evalP C (.glob k)).1 η S = (ofO C.P.consts[k]? S).bnd fun x S => .ok (.d x) S := id rfl
@[simp] theorem ev_glob_t {k} : (evalP C (.glob k)).2 η S = ((evalP C (.glob k)).1 η S).bnd fun x S1 => ofO (truthy x S1) S1 := id rfl
@[simp] theorem ev_fnv {f} : (evalP C (.fnv f)).1 η S = .ok (.d (.fn f)) S := id rfl
@[simp] theorem ev_fnv_t {f} : (evalP C (.fnv f)).2 η S = ((evalP C (.fnv f)).1 η S).bnd fun x S1 => ofO (truthy x S1) S1 := id rfl
@[simp] theorem ev_non  : (evalP C .non).1 η S = .ok (.d .non) S := id rfl
@[simp] theorem ev_non_t  : (evalP C .non).2 η S = ((evalP C .non).1 η S).bnd fun x S1 => ofO (truthy x S1) S1 := id rfl
@[simp] theorem ev_bl {b} : (evalP C (.bl b)).1 η S = .ok (.d (.bl b)) S := id rfl
@[simp] theorem ev_bl_t {b} : (evalP C (.bl b)).2 η S = ((evalP C (.bl b)).1 η S).bnd fun x S1 => ofO (truthy x S1) S1 := id rfl
@[simp] theorem ev_int {b} : (evalP C (.int b)).1 η S = .ok (.d (.int b)) S := id rfl
@[simp] theorem ev_int_t {b} : (evalP C (.int b)).2 η S = ((evalP C (.int b)).1 η S).bnd fun x S1 => ofO (truthy x S1) S1 := id rfl
@[simp] theorem ev_str {b} : (evalP C (.str b)).1 η S = .ok (.d (.str b)) S := id rfl
@[simp] theorem ev_str_t {b} : (evalP C (.str b)).2 η S = ((evalP C (.str b)).1 η S).bnd fun x S1 => ofO (truthy x S1) S1 := id rfl
@[simp] theorem ev_tup {es} : (evalP C (.tup es)).1 η S = (evalEs C es η S).bnd fun ws S1 => (toDs ws S1).bnd fun xs S2 => .ok (.d (.tup xs)) S2 := id rfl
@[simp] theorem ev_tup_t {es} : (evalP C (.tup es)).2 η S = ((evalP C (.tup es)).1 η S).bnd fun x S1 => ofO (truthy x S1) S1 := id rfl
@[simp] theorem ev_lst {es} : (evalP C (.lst es)).1 η S = (evalEs C es η S).bnd fun ws S1 => (toDs ws S1).bnd fun xs S2 => .ok (.d (.lst xs)) S2 := id rfl
@[simp] theorem ev_lst_t {es} : (evalP C (.lst es)).2 η S = ((evalP C (.lst es)).1 η S).bnd fun x S1 => ofO (truthy x S1) S1 := id rfl
@[simp] theorem ev_bin {o a b} : (evalP C (.bin o a b)).1 η S = ((evalP C a).1 η S).bnd fun x S1 => ((evalP C b).1 η S1).bnd fun y S2 => (ofO (binD o x y S2) S2).bnd fun z S3 => .ok (.d z) S3 := id rfl
@[simp] theorem ev_bin_t {o a b} : (evalP C (.bin o a b)).2 η S = ((evalP C (.bin o a b)).1 η S).bnd fun x S1 => ofO (truthy x S1) S1 := id rfl
@[simp] theorem ev_neg {a} : (evalP C (.neg a)).1 η S = ((evalP C a).1 η S).bnd fun x S1 => match x with
    | .d (.int i) => .ok (.d (.int (-i))) S1
    | _ => .stk := id rfl
@[simp] theorem ev_neg_t {a} : (evalP C (.neg a)).2 η S = ((evalP C (.neg a)).1 η S).bnd fun x S1 => ofO (truthy x S1) S1 := id rfl
@[simp] theorem ev_not1 {a} : (evalP C (.not a)).1 η S = ((evalP C a).1 η S).bnd fun x S1 => (ofO (truthy x S1) S1).bnd fun b S2 => .ok (.d (.bl (!b))) S2 := id rfl
@[simp] theorem ev_not2 {a} : (evalP C (.not a)).2 η S = ((evalP C a).2 η S).bnd fun b S1 => .ok (!b) S1 := id rfl
@[simp] theorem ev_cmp {o a b} : (evalP C (.cmp o a b)).1 η S = ((evalP C a).1 η S).bnd fun x S1 => ((evalP C b).1 η S1).bnd fun y S2 => cmpW C o x y S2 := id rfl
@[simp] theorem ev_cmp_t {o a b} : (evalP C (.cmp o a b)).2 η S = ((evalP C (.cmp o a b)).1 η S).bnd fun x S1 => ofO (truthy x S1) S1 := id rfl
@[simp] theorem ev_cmpd {o a b} : (evalP C (.cmpd o a b)).1 η S = ((evalP C a).1 η S).bnd fun x S1 => ((evalP C b).1 η S1).bnd fun y S2 => (ofO (cmpD o x y S2) S2).bnd fun k S3 => .ok (.d (.bl k)) S3 := id rfl
@[simp] theorem ev_cmpd_t {o a b} : (evalP C (.cmpd o a b)).2 η S = ((evalP C (.cmpd o a b)).1 η S).bnd fun x S1 => ofO (truthy x S1) S1 := id rfl
@[simp] theorem ev_chain {o o' a b c} : (evalP C (.chain o o' a b c)).1 η S = ((evalP C a).1 η S).bnd fun x S1 => ((evalP C b).1 η S1).bnd fun y S2 => (ofO (cmpD o x y S2) S2).bnd fun k S3 =>
      if k = true then ((evalP C c).1 η S3).bnd fun z S4 => (ofO (cmpD o' y z S4) S4).bnd fun k' S5 => .ok (.d (.bl k')) S5 else .ok (.d (.bl false)) S3 := id rfl
@[simp] theorem ev_chain_t {o o' a b c} : (evalP C (.chain o o' a b c)).2 η S = ((evalP C (.chain o o' a b c)).1 η S).bnd fun x S1 => ofO (truthy x S1) S1 := id rfl
@[simp] theorem ev_isn {n a} : (evalP C (.isn n a)).1 η S = ((evalP C a).1 η S).bnd fun x S1 => match x with
    | .d .non => .ok (.d (.bl (!n))) S1
    | _ => .ok (.d (.bl n)) S1 := id rfl
@[simp] theorem ev_isn_t {n a} : (evalP C (.isn n a)).2 η S = ((evalP C (.isn n a)).1 η S).bnd fun x S1 => ofO (truthy x S1) S1 := id rfl
@[simp] theorem ev_and {es} : evalP C (.and es) = evalAnd C es := id rfl
@[simp] theorem ev_or {es} : evalP C (.or es) = evalOr C es := id rfl
@[simp] theorem and_one {e} : evalAnd C (.cons e .nil) = evalP C e := id rfl
@[simp] theorem or_one {e} : evalOr C (.cons e .nil) = evalP C e := id rfl
@[simp] theorem and1 {e e2 r} : (evalAnd C (.cons e (.cons e2 r))).1 η S = ((evalP C e).1 η S).bnd fun x S1 => (ofO (truthy x S1) S1).bnd fun k S2 => if k = true then (evalAnd C (.cons e2 r)).1 η S2 else .ok x S2 := id rfl
@[simp] theorem and2 {e e2 r} : (evalAnd C (.cons e (.cons e2 r))).2 η S = ((evalP C e).2 η S).bnd fun k S1 => if k = true then (evalAnd C (.cons e2 r)).2 η S1 else .ok false S1 := id rfl
@[simp] theorem or1 {e e2 r} : (evalOr C (.cons e (.cons e2 r))).1 η S = ((evalP C e).1 η S).bnd fun x S1 => (ofO (truthy x S1) S1).bnd fun k S2 => if k = true then .ok x S2 else (evalOr C (.cons e2 r)).1 η S2 := id rfl
@[simp] theorem or2 {e e2 r} : (evalOr C (.cons e (.cons e2 r))).2 η S = ((evalP C e).2 η S).bnd fun k S1 => if k = true then .ok true S1 else (evalOr C (.cons e2 r)).2 η S1 := id rfl
@[simp] theorem ev_ifx {c a b} : (evalP C (.ifx c a b)).1 η S = ((evalP C c).2 η S).bnd fun k S1 => if k = true then (evalP C a).1 η S1 else (evalP C b).1 η S1 := id rfl
@[simp] theorem ev_ifx_t {c a b} : (evalP C (.ifx c a b)).2 η S = ((evalP C (.ifx c a b)).1 η S).bnd fun x S1 => ofO (truthy x S1) S1 := id rfl
@[simp] theorem ev_call {f es} : (evalP C (.call f es)).1 η S = (evalEs C es η S).bnd fun ws S1 => C.call f ws S1 := id rfl
@[simp] theorem ev_call_t {f es} : (evalP C (.call f es)).2 η S = ((evalP C (.call f es)).1 η S).bnd fun x S1 => ofO (truthy x S1) S1 := id rfl
@[simp] theorem ev_callv {i es} : (evalP C (.callv i es)).1 η S = (ofO (getV η i) S).bnd fun w S => match w with
    | .d (.fn f) => match C.P.fns[f]? with
      | some fd => (evalEs C es η S).bnd fun ws S1 => if ws.length = fd.np then C.call f ws S1 else .stk
      | none => .stk
    | _ => .stk := id rfl
@[simp] theorem ev_callv_t {i es} : (evalP C (.callv i es)).2 η S = ((evalP C (.callv i es)).1 η S).bnd fun x S1 => ofO (truthy x S1) S1 := id rfl
@[simp] theorem ev_mk {c es} : (evalP C (.mk c es)).1 η S = (evalEs C es η S).bnd fun ws S1 => mkW C c ws S1 := id rfl
@[simp] theorem ev_mk_t {c es} : (evalP C (.mk c es)).2 η S = ((evalP C (.mk c es)).1 η S).bnd fun x S1 => ofO (truthy x S1) S1 := id rfl
@[simp] theorem ev_bi {b es} : (evalP C (.bi b es)).1 η S = (evalEs C es η S).bnd fun ws S1 => (ofO (biD b ws S1) S1).bnd fun x S2 => .ok (.d x) S2 := id rfl
@[simp] theorem ev_bi_t {b es} : (evalP C (.bi b es)).2 η S = ((evalP C (.bi b es)).1 η S).bnd fun x S1 => ofO (truthy x S1) S1 := id rfl
@[simp] theorem ev_bm {e m es} : (evalP C (.bm e m es)).1 η S = ((evalP C e).1 η S).bnd fun o S1 => if recvOk m o S1 = true then (evalEs C es η S1).bnd fun ws S2 => bmD m o ws S2 else .stk := id rfl
@[simp] theorem ev_bm_t {e m es} : (evalP C (.bm e m es)).2 η S = ((evalP C (.bm e m es)).1 η S).bnd fun x S1 => ofO (truthy x S1) S1 := id rfl
@[simp] theorem ev_fld {e f} : (evalP C (.fld e f)).1 η S = ((evalP C e).1 η S).bnd fun o S1 => ofO (fldD C.P o f S1) S1 := id rfl
@[simp] theorem ev_fld_t {e f} : (evalP C (.fld e f)).2 η S = ((evalP C (.fld e f)).1 η S).bnd fun x S1 => ofO (truthy x S1) S1 := id rfl
@[simp] theorem ev_ix {a b} : (evalP C (.ix a b)).1 η S = ((evalP C a).1 η S).bnd fun x S1 => ((evalP C b).1 η S1).bnd fun y S2 => ofO (ixD x y S2) S2 := id rfl
@[simp] theorem ev_ix_t {a b} : (evalP C (.ix a b)).2 η S = ((evalP C (.ix a b)).1 η S).bnd fun x S1 => ofO (truthy x S1) S1 := id rfl
@[simp] theorem ev_sl {a lo hi} : (evalP C (.sl a lo hi)).1 η S = ((evalP C a).1 η S).bnd fun x S1 => (evalO C lo η S1).bnd fun l S2 => (evalO C hi η S2).bnd fun h S3 => (ofO (slD x l h S3) S3).bnd fun z S4 => .ok (.d z) S4 := id rfl
@[simp] theorem ev_sl_t {a lo hi} : (evalP C (.sl a lo hi)).2 η S = ((evalP C (.sl a lo hi)).1 η S).bnd fun x S1 => ofO (truthy x S1) S1 := id rfl
@[simp] theorem ev_lc {e own t it ifs} : (evalP C (.lc e own t it ifs)).1 η S = noExc ((evalI C it η S).bnd fun src S1 => (lcSrc (setT C t) (evalC C ifs) (evalP C e).1 (wipeE η own) src S1).bnd fun xs S2 => .ok (.d (.lst xs)) S2) := id rfl
@[simp] theorem ev_lc_t {e own t it ifs} : (evalP C (.lc e own t it ifs)).2 η S = ((evalP C (.lc e own t it ifs)).1 η S).bnd fun x S1 => ofO (truthy x S1) S1 := id rfl
@[simp] theorem ev_isi {e ts} : (evalP C (.isi e ts)).1 η S = ((evalP C e).1 η S).bnd fun x S1 => (ofO (tyName x S1) S1).bnd fun t S2 => if isiOk C.P x t = true then .ok (.d (.bl (ts.any fun u => tyIs C.P t u))) S2 else .stk := id rfl
@[simp] theorem ev_isi_t {e ts} : (evalP C (.isi e ts)).2 η S = ((evalP C (.isi e ts)).1 η S).bnd fun x S1 => ofO (truthy x S1) S1 := id rfl
@[simp] theorem ev_thaw {e} : (evalP C (.thaw e)).1 η S = ((evalP C e).1 η S).bnd fun w S1 => thawD w S1 := id rfl
@[simp] theorem ev_thaw_t {e} : (evalP C (.thaw e)).2 η S = ((evalP C (.thaw e)).1 η S).bnd fun x S1 => ofO (truthy x S1) S1 := id rfl
@[simp] theorem ev_lsw {es} : (evalP C (.lsw es)).1 η S = (evalEs C es η S).bnd fun ws S1 => .ok (.loc S1.length) (S1 ++ [.lsw ws]) := id rfl
@[simp] theorem ev_dic0 : (evalP C .dic0).1 η S = .ok (.d (.dic [])) S := id rfl
@[simp] theorem ev_dic0_t : (evalP C .dic0).2 η S = ((evalP C .dic0).1 η S).bnd fun x S1 => ofO (truthy x S1) S1 := id rfl
@[simp] theorem ev_setop {o a} : (evalP C (.setop o a)).1 η S = ((evalP C a).1 η S).bnd fun x S1 => (ofO (setD o x S1) S1).bnd fun z S2 => .ok (.d z) S2 := id rfl
@[simp] theorem ev_rep {a} : (evalP C (.rep a)).1 η S = ((evalP C a).1 η S).bnd fun x S1 => (ofO (reprD x) S1).bnd fun z S2 => .ok (.d z) S2 := id rfl
@[simp] theorem ev_lrng {a} : (evalP C (.lrng a)).1 η S = ((evalP C a).1 η S).bnd fun w S1 => match w with
    | .d (.int n) => if -lineR ≤ n ∧ n < 16777216 then .ok (.d (.lst ((List.range n.toNat).map fun i => .int (i : Nat)))) S1 else .stk
    | _ => .stk := id rfl
@[simp] theorem ev_isx {e t} : (evalP C (.isx e t)).1 η S = ((evalP C e).1 η S).bnd fun x S1 => match x with
    | .exn c _ => if excC C.P c = true then .ok (.d (.bl (tyIs C.P (.cls c) t))) S1 else .stk
    | _ => .stk := id rfl
@[simp] theorem ev_isx_t {e t} : (evalP C (.isx e t)).2 η S = ((evalP C (.isx e t)).1 η S).bnd fun x S1 => ofO (truthy x S1) S1 := id rfl
@[simp] theorem ev_flx {e f} : (evalP C (.flx e f)).1 η S = ((evalP C e).1 η S).bnd fun x S1 => match x with
    | .exn c fs => if excC C.P c = true then (ofO (lookN f fs) S1).bnd fun z S2 => .ok (.d z) S2 else .stk
    | _ => .stk := id rfl
@[simp] theorem es_nil' : evalEs C .nil η S = .ok [] S := id rfl
@[simp] theorem es_cons' {e es} : evalEs C (.cons e es) η S = ((evalP C e).1 η S).bnd fun w S1 => (evalEs C es η S1).bnd fun ws S2 => .ok (w :: ws) S2 := id rfl
@[simp] theorem eo_no : evalO C .no η S = .ok none S := id rfl
@[simp] theorem eo_yes {e} : evalO C (.yes e) η S = ((evalP C e).1 η S).bnd fun w S1 => match w with
    | .d (.int i) => .ok (some i) S1
    | _ => .stk := id rfl
theorem ec_no : evalC C .no = fun _ S => .ok true S := id rfl
theorem ec_yes {e} : evalC C (.yes e) = (evalP C e).2 := id rfl
@[simp] theorem ss_nil' : execSs C .nil η S = .ok (.nx η) S := id rfl
def seqF (f : Flow) (S : Store) (k : Env → Store → Res Flow) : Res Flow := match f with
  | .nx η => k η S
  | f => .ok f S
@[simp] theorem seqF_nx {k : Env → Store → Res Flow} : seqF (.nx η) S k = k η S := id rfl
@[simp] theorem seqF_ret {w : W} {k : Env → Store → Res Flow} : seqF (.ret w) S k = .ok (.ret w) S := id rfl
@[simp] theorem seqF_brk {k : Env → Store → Res Flow} : seqF (.brk η) S k = .ok (.brk η) S := id rfl
@[simp] theorem seqF_cont {k : Env → Store → Res Flow} : seqF (.cont η) S k = .ok (.cont η) S := id rfl
@[simp] theorem ss_cons' {s ss} : execSs C (.cons s ss) η S = (execS C s η S).bnd fun f S1 => seqF f S1 (execSs C ss) := by
  show ((execS C s η S).bnd fun f S1 => match f with
    | .nx η1 => execSs C ss η1 S1
    | f => .ok f S1) = _
  rfl
@[simp] theorem x_expr {e} : execS C (.expr e) η S = ((evalP C e).1 η S).bnd fun _ S1 => .ok (.nx η) S1 := id rfl
@[simp] theorem x_ret {e} : execS C (.ret e) η S = ((evalP C e).1 η S).bnd fun w S1 => .ok (.ret w) S1 := id rfl
@[simp] theorem x_asg {t e} : execS C (.asg t e) η S = ((evalP C e).1 η S).bnd fun w S1 => (noExc (setT C t w η S1)).bnd fun η1 S2 => .ok (.nx η1) S2 := id rfl
@[simp] theorem x_par {is es} : execS C (.par is es) η S = (evalEs C es η S).bnd fun ws S1 => (ofO (setNs is ws η) S1).bnd fun η1 S2 => .ok (.nx η1) S2 := id rfl
@[simp] theorem x_ife {c a b} : execS C (.ife c a b) η S = ((evalP C c).2 η S).bnd fun k S1 => if k = true then execSs C a η S1 else execSs C b η S1 := id rfl
@[simp] theorem x_for {t it b} : execS C (.for_ t it b) η S = (evalI C it η S).bnd fun src S1 => forSrc (setT C t) (execSs C b) src η S1 := id rfl
@[simp] theorem x_whl {c b} : execS C (.whl c b) η S = whileL (evalP C c).2 (execSs C b) C.fu η S := id rfl
theorem x_raise {c es} : execS C (.raise c es) η S = (evalEs C es η S).bnd fun ws S1 => match C.P.cls[c]? with
    | some k => match k.exc with
      | some fs => match fieldsOf fs ws with
        | some ds => .exc c ds S1
        | none => .stk
      | none => .stk
    | none => .stk := id rfl
theorem x_try {body c i suite} : execS C (.tryx body c i suite) η S = match execB C body η S with
    | .exc c' fs S1 => if excC C.P c' = true ∧ i < η.length then (if tyIs C.P (.cls c') (.cls c) = true then
        (noExc (execSs C suite (η.set i (some (.exn c' fs))) S1)).bnd fun f S2 => match f with
          | .nx η1 => if noExn (η1.set i none) = true then .ok (.nx (η1.set i none)) S2 else .stk
          | _ => .stk
      else .exc c' fs S1) else .stk
    | r => r := id rfl
theorem x_one {s rest} : execB C (.one s rest) η S = (execS C s η S).bnd fun f S1 => match f with
    | .nx η1 => noExc (execSs C rest η1 S1)
    | f => .ok f S1 := id rfl
@[simp] theorem x_pass : execS C .pass η S = .ok (.nx η) S := id rfl
@[simp] theorem x_cont : execS C .cont η S = .ok (.cont η) S := id rfl
@[simp] theorem x_brk : execS C .brk η S = .ok (.brk η) S := id rfl
@[simp] theorem x_retN : execS C .retN η S = .ok (.ret (.d .non)) S := id rfl
@[simp] theorem i_seq' {e} : evalI C (.seq e) η S = ((evalP C e).1 η S).bnd fun w S1 => match w with
    | .loc l => match S1[l]? with
      | some (.lst ys) => .ok (.loc l ys.length) S1
      | _ => .stk
    | .d (.str s) => .ok (.fix (s.map fun c => .str [c])) S1
    | w => match seqOf w S1 with
      | some (_, xs) => .ok (.fix xs) S1
      | none => .stk := id rfl
@[simp] theorem i_enum' {e} : evalI C (.enum e) η S = ((evalP C e).1 η S).bnd fun w S1 => match w with
    | .loc _ => .stk
    | w => match seqOf w S1 with
      | some (_, xs) => .ok (.fix (xs.mapIdx fun i x => .tup [.int (i : Nat), x])) S1
      | none => .stk := id rfl
@[simp] theorem i_zip' {a b} : evalI C (.zip a b) η S = ((evalP C a).1 η S).bnd fun w S1 => ((evalP C b).1 η S1).bnd fun u S2 => match w, u with
    | .d x, .d y => match seqOf (.d x) S2, seqOf (.d y) S2 with
      | some (_, xs), some (_, ys) => .ok (.fix ((xs.zip ys).map fun p => .tup [p.1, p.2])) S2
      | _, _ => .stk
    | _, _ => .stk := id rfl
@[simp] theorem i_rng' {a} : evalI C (.rng a) η S = ((evalP C a).1 η S).bnd fun w S1 => match w with
    | .d (.int n) => if -lineR ≤ n ∧ n < lineR then .ok (.fix ((List.range n.toNat).map fun i => .int (i : Nat))) S1 else .stk
    | _ => .stk := id rfl
@[simp] theorem st_nm {i w} : setT C (.nm i) w η S = if i < η.length then .ok (η.set i (some w)) S else .stk := id rfl
@[simp] theorem st_tup {ts w} : setT C (.tup ts) w η S = match seqOf w S with
    | some (.tup, xs) => setTs C ts xs η S
    | _ => .stk := id rfl
@[simp] theorem sts_nil : setTs C .nil [] η S = .ok η S := id rfl
@[simp] theorem sts_cons {t ts x xs} : setTs C (.cons t ts) (x :: xs) η S = (setT C t (.d x) η S).bnd fun η1 S1 => setTs C ts xs η1 S1 := id rfl
@[simp] theorem st_sub {o i w} : setT C (.sub o i) w η S = ((evalP C o).1 η S).bnd fun x S1 => ((evalP C i).1 η S1).bnd fun k S2 => (setSub x k w S2).bnd fun _ S3 => .ok η S3 := id rfl
@[simp] theorem st_fld {o f w} : setT C (.fld o f) w η S = ((evalP C o).1 η S).bnd fun x S1 => (setFld C.P x f w S1).bnd fun _ S2 => .ok η S2 := id rfl
end
end RI
/-! PT: runs that end well. -/
namespace RI
def TotD {α : Type} (r : Res α) (Q : α → Store → Prop) : Prop := match r with
  | .ok a S => Q a S
  | _ => False
/-- the run ends well, and so -/
structure Tot {α : Type} (r : Res α) (Q : α → Store → Prop) (_u : Tag Q := Tag.mk) : Prop where
  h : TotD r Q
section
variable {α β : Type} {r : Res α} {f : α → Store → Res β} {P Q : α → Store → Prop} {R : β → Store → Prop} {S : Store}
@[simp] theorem Tot_ok {a : α} : Tot (.ok a S) Q = Q a S := propext ⟨fun h => h.h, fun h => ⟨h⟩⟩
@[simp] theorem Tot_stk : Tot (.stk : Res α) Q = False := propext ⟨fun h => h.h, False.elim⟩
@[simp] theorem Tot_exc {c : Nat} {fs : List (Nat × D)} : Tot (.exc c fs S : Res α) Q = False := propext ⟨fun h => h.h, False.elim⟩
@[simp] theorem Tot_noExc_bind : Tot ((noExc r).bnd f) R = Tot (r.bnd f) R := by
  cases r with
  | exc c fs S => exact propext ⟨fun h => h.h.elim, fun h => h.h.elim⟩
  | _ => rfl
@[simp] theorem Tot_noExc : Tot (noExc r) Q = Tot r Q := by
  cases r with
  | exc c fs S => exact propext ⟨fun h => h.h.elim, fun h => h.h.elim⟩
  | _ => rfl
@[simp] theorem bind_assoc' {γ : Type} {g : β → Store → Res γ} : (r.bnd f).bnd g = r.bnd fun a S => (f a S).bnd g := by cases r <;> rfl
@[simp] theorem ite_bind {c : Prop} [Decidable c] {a b : Res α} : (if c then a else b).bnd f = if c then a.bnd f else b.bnd f := by split <;> rfl
@[simp] theorem Tot_ite {c : Prop} [Decidable c] {a b : Res α} : Tot (if c then a else b) Q = if c then Tot a Q else Tot b Q := by split <;> rfl
theorem Tot.seq (h : Tot r P) (k : ∀ a S, P a S → Tot (f a S) R) : Tot (r.bnd f) R := by
  cases r with
  | ok a S => exact k a S h.h
  | exc _ _ _ => exact h.h.elim
  | stk => exact h.h.elim
theorem Tot.mono (h : Tot r P) (k : ∀ a S, P a S → Q a S) : Tot r Q := by
  cases r with
  | ok a S => exact ⟨k a S h.h⟩
  | exc _ _ _ => exact h.h.elim
  | stk => exact h.h.elim
theorem Tot.ex (h : Tot r P) : ∃ a S, r = .ok a S ∧ P a S := by
  cases r with
  | ok a S => exact ⟨a, S, rfl, h.h⟩
  | exc _ _ _ => exact h.h.elim
  | stk => exact h.h.elim
theorem Tot.of_eq {a : α} (h : r = .ok a S) (q : Q a S) : Tot r Q := by rw [h]; exact ⟨q⟩
end
/-! ### what operations tell -/
section
variable {C : Ctx} {S : Store} {i j : Int} {xs ys : List D} {b : Bool} {s t : List Nat} {l : Nat} {x y : D} {c : Nat} {fs : List (Nat × D)}
@[simp] theorem tr_bl : truthy (.d (.bl b)) S = some b := id rfl
@[simp] theorem tr_non : truthy (.d .non) S = some false := id rfl
@[simp] theorem tr_int : truthy (.d (.int i)) S = some (i != 0) := id rfl
@[simp] theorem bi_abs : biD .abs [.d (.int i)] S = some (.int (if i < 0 then -i else i)) := id rfl
@[simp] theorem bi_int : biD .int [.d (.int i)] S = some (.int i) := id rfl
@[simp] theorem bi_intb : biD .int [.d (.bl b)] S = some (.int (if b = true then 1 else 0)) := id rfl
@[simp] theorem bi_len_tup : biD .len [.d (.tup xs)] S = some (.int xs.length) := id rfl
@[simp] theorem bi_len_lst : biD .len [.d (.lst xs)] S = some (.int xs.length) := id rfl
@[simp] theorem bi_len_loc : biD .len [.loc l] S = match S[l]? with
    | some (.lst xs) => some (.int xs.length)
    | _ => none := by
  simp only [biD, seqOf]
  generalize S[l]? = o
  cases o with
  | none => rfl
  | some c => cases c <;> rfl
@[simp] theorem bi_tuple_lst : biD .tuple [.d (.lst xs)] S = some (.tup xs) := id rfl
@[simp] theorem bi_tuple_tup : biD .tuple [.d (.tup xs)] S = some (.tup xs) := id rfl
@[simp] theorem bi_tuple_loc : biD .tuple [.loc l] S = match S[l]? with
    | some (.lst xs) => some (.tup xs)
    | _ => none := by
  simp only [biD, seqOf]
  generalize S[l]? = o
  cases o with
  | none => rfl
  | some c => cases c <;> rfl
@[simp] theorem bi_list_lst : biD .list [.d (.lst xs)] S = some (.lst xs) := id rfl
@[simp] theorem bi_list_tup : biD .list [.d (.tup xs)] S = some (.lst xs) := id rfl
@[simp] theorem bi_all : biD .all [.d (.lst xs)] S = (allB xs).map .bl := id rfl
@[simp] theorem bi_any : biD .any [.d (.lst xs)] S = (anyB xs).map .bl := id rfl
@[simp] theorem bn_add : binD .add (.d (.int i)) (.d (.int j)) S = some (.int (i + j)) := id rfl
@[simp] theorem bn_sub : binD .sub (.d (.int i)) (.d (.int j)) S = some (.int (i - j)) := id rfl
@[simp] theorem bn_mul : binD .mul (.d (.int i)) (.d (.int j)) S = if bitsOk i j = true then some (.int (i * j)) else none := id rfl
def fdB (j : Int) : Bool := decide ((0 < j ∧ j.natAbs.log2 < 9000) ∨ (j ≠ 0 ∧ j.natAbs.log2 < 9000))
theorem fdB_pos {j : Int} (h : 0 < j) (h2 : j < 18446744073709551616) : fdB j = true := by
  have : j.natAbs.log2 < 64 := (Nat.log2_lt (by omega)).mpr (by omega)
  simp only [fdB, decide_eq_true_eq]
  exact .inl ⟨h, by omega⟩
@[simp] theorem fdB_1 : fdB 1009 = true := by decide
@[simp] theorem fdB_2 : fdB 2003 = true := by decide
@[simp] theorem fdB_3 : fdB 16 = true := by decide
@[simp] theorem bn_fdiv : binD .fdiv (.d (.int i)) (.d (.int j)) S = if fdB j = true then some (.int (i.fdiv j)) else none := by
  show (if (0 < j ∧ j.natAbs.log2 < 9000) ∨ (j ≠ 0 ∧ j.natAbs.log2 < 9000) then some (D.int (i.fdiv j)) else none) = _
  simp only [fdB, decide_eq_true_eq]
@[simp] theorem bn_mod : binD .mod (.d (.int i)) (.d (.int j)) S = if j ≠ 0 then some (.int (i.fmod j)) else none := id rfl
@[simp] theorem bn_pow : binD .pow (.d (.int i)) (.d (.int j)) S = if 0 ≤ j ∧ j ≤ 1000000 ∧ i.natAbs < 2 ^ 64 then some (.int (i ^ j.toNat)) else none := id rfl
@[simp] theorem bn_addt : binD .add (.d (.tup xs)) (.d (.tup ys)) S = if xs.length + ys.length ≤ line then some (.tup (xs ++ ys)) else none := id rfl
@[simp] theorem bn_addl : binD .add (.d (.lst xs)) (.d (.lst ys)) S = if xs.length + ys.length ≤ line then some (.lst (xs ++ ys)) else none := id rfl
@[simp] theorem bn_adds : binD .add (.d (.str s)) (.d (.str t)) S = if s.length + t.length ≤ line then some (.str (s ++ t)) else none := id rfl
@[simp] theorem bn_mult : binD .mul (.d (.tup xs)) (.d (.int j)) S = if -(2 ^ 63) ≤ j ∧ j ≤ 1000 ∧ xs.length ≤ 1000 then some (.tup (rep j xs)) else none := id rfl
@[simp] theorem bn_mull : binD .mul (.d (.lst xs)) (.d (.int j)) S = if xs.length * j.toNat ≤ line ∧ -(2 ^ 63) ≤ j ∧ j < 2 ^ 63 then some (.lst (rep j xs)) else none := id rfl
@[simp] theorem cm_lt : cmpW C .lt (.d (.int i)) (.d (.int j)) S = .ok (.d (.bl (decide (i < j)))) S := id rfl
@[simp] theorem cm_le : cmpW C .le (.d (.int i)) (.d (.int j)) S = .ok (.d (.bl (decide (i ≤ j)))) S := id rfl
@[simp] theorem cm_gt : cmpW C .gt (.d (.int i)) (.d (.int j)) S = .ok (.d (.bl (decide (j < i)))) S := id rfl
@[simp] theorem cm_ge : cmpW C .ge (.d (.int i)) (.d (.int j)) S = .ok (.d (.bl (decide (j ≤ i)))) S := id rfl
@[simp] theorem cD_lt : cmpD .lt (.d (.int i)) (.d (.int j)) S = some (decide (i < j)) := id rfl
@[simp] theorem cD_le : cmpD .le (.d (.int i)) (.d (.int j)) S = some (decide (i ≤ j)) := id rfl
theorem pyEq_ii (i j : Int) : pyEq (.int i) (.int j) = some (decide (i = j)) := by
  unfold pyEq
  by_cases e : i = j
  · subst e; simp [toPD, PySem.SeqAt.shaped, PySem.PyData.eqv, PySem.PyData.canLay0, PySem.PyData.depth]
  · simp [toPD, PySem.SeqAt.shaped, PySem.PyData.eqv, PySem.PyData.canLay0, PySem.PyData.depth, e]
@[simp] theorem cm_eqi : cmpW C .eq (.d (.int i)) (.d (.int j)) S = .ok (.d (.bl (decide (i = j)))) S := by
  unfold cmpW
  simp only [eqOwnE_int, cmpD, eqD, pyEq_ii, ofO_some, Res.bind_ok, bnd_ok]
@[simp] theorem cm_nei : cmpW C .ne (.d (.int i)) (.d (.int j)) S = .ok (.d (.bl (!decide (i = j)))) S := by
  have e : eqOwn C (.d (.int i)) (.d (.int j)) S = none := id rfl
  unfold cmpW
  simp only [e, cmpD, eqD, pyEq_ii, ofO_some, Res.bind_ok, bnd_ok, Option.map_some]
@[simp] theorem cm_eqs : cmpW C .eq (.d (.str s)) (.d (.str t)) S = .ok (.d (.bl (decide (s = t)))) S := by
  unfold cmpW
  simp only [eqOwnE_str, cmpD, eqD, ofO_some, Res.bind_ok, bnd_ok]
@[simp] theorem ix_tup : ixD (.d (.tup xs)) (.d (.int i)) S = (L2.atI xs i).map .d := id rfl
@[simp] theorem ix_lst : ixD (.d (.lst xs)) (.d (.int i)) S = (L2.atI xs i).map .d := id rfl
@[simp] theorem ix_loc : ixD (.loc l) (.d (.int i)) S = match S[l]? with
    | some (.lst xs) => (L2.atI xs i).map .d
    | some (.lsw ws) => L2.atI ws i
    | _ => none := id rfl
@[simp] theorem sl_tup {lo hi : Option Int} : slD (.d (.tup xs)) lo hi S = some (.tup (cut xs lo hi)) := id rfl
@[simp] theorem sl_lst {lo hi : Option Int} : slD (.d (.lst xs)) lo hi S = some (.lst (cut xs lo hi)) := id rfl
@[simp] theorem at0 {α : Type} (x : α) (xs : List α) : L2.atI (x :: xs) 0 = some x := L2.atI_nat (j := 0) rfl
@[simp] theorem at1 {α : Type} (x y : α) (xs : List α) : L2.atI (x :: y :: xs) 1 = some y := L2.atI_nat (j := 1) rfl
@[simp] theorem at2 {α : Type} (x y z : α) (xs : List α) : L2.atI (x :: y :: z :: xs) 2 = some z := L2.atI_nat (j := 2) rfl
@[simp] theorem th_lst : thawD (.d (.lst xs)) S = .ok (.loc S.length) (S ++ [.lst xs]) := id rfl
@[simp] theorem tn_non : tyName (.d .non) S = some .none := id rfl
@[simp] theorem tn_bl : tyName (.d (.bl b)) S = some .bool := id rfl
@[simp] theorem tn_int : tyName (.d (.int i)) S = some .int := id rfl
@[simp] theorem tn_str : tyName (.d (.str s)) S = some .str := id rfl
@[simp] theorem tn_tup : tyName (.d (.tup xs)) S = some .tuple := id rfl
@[simp] theorem tn_lst : tyName (.d (.lst xs)) S = some .list := id rfl
@[simp] theorem tn_dic {kvs : List (D × D)} : tyName (.d (.dic kvs)) S = some .dict := id rfl
@[simp] theorem tn_obj : tyName (.d (.obj c fs)) S = some (.cls c) := id rfl
@[simp] theorem sq_tup : seqOf (.d (.tup xs)) S = some (.tup, xs) := id rfl
@[simp] theorem sq_lst : seqOf (.d (.lst xs)) S = some (.lst, xs) := id rfl
@[simp] theorem ss_lsti {w : W} : setSub (.loc l) (.d (.int i)) w S = match S[l]? with
    | some (.lst xs) => match L2.ixN xs.length i with
      | some j => (toD w S).bnd fun x S1 => match S1[l]? with
        | some (.lst xs) => .ok () (S1.set l (.lst (xs.set j x)))
        | _ => .stk
      | none => .stk
    | some (.lsw ws) => match L2.ixN ws.length i with
      | some j => .ok () (S.set l (.lsw (ws.set j w)))
      | none => .stk
    | _ => .stk := id rfl
@[simp] theorem bm_append {w : W} : bmD .append (.loc l) [w] S = match S[l]? with
    | some (.lst xs) => (toD w S).bnd fun x S1 => match S1[l]? with
      | some (.lst xs) => if xs.length < line then .ok (.d .non) (S1.set l (.lst (xs ++ [x]))) else .stk
      | _ => .stk
    | _ => .stk := id rfl
@[simp] theorem bm_pop : bmD .pop (.loc l) [.d (.int i)] S = match S[l]? with
    | some (.lst xs) => match L2.ixN xs.length i with
      | some k => match xs[k]? with
        | some x => .ok (.d x) (S.set l (.lst (xs.eraseIdx k)))
        | none => .stk
      | none => .stk
    | _ => .stk := id rfl
@[simp] theorem rc_loc {m : BM} (h : m ≠ .join ∧ m ≠ .split := by decide) : recvOk m (.loc l) S = match S[l]? with
    | some (.lst _) => true
    | _ => false := by
  cases m <;> first | exact absurd rfl h.1 | exact absurd rfl h.2 | (simp only [recvOk, lstOf]; generalize S[l]? = o; cases o with | none => rfl | some c => cases c <;> rfl)
end
/-! ### calls -/
theorem runT {P : Prog} {fu n f : Nat} {fd : FnD} {ws : List W} {S : Store} (h1 : P.fns[f]? = some fd) (h2 : ws.length = fd.np) : callF P fu (n + 1) f ws S = finish fd.keep S.length (execSs ⟨callF P fu n, P, fu⟩ fd.body (startE fd.N.length ws) S) := by
  show (match P.fns[f]? with
    | some fd => if ws.length = fd.np then finish fd.keep S.length (execSs ⟨callF P fu n, P, fu⟩ fd.body (startE fd.N.length ws) S) else .stk
    | none => .stk) = _
  rw [h1]
  dsimp only
  rw [if_pos h2]
/-- what is let go at a call's end -/
structure Sok (n : Nat) (S : Store) : Prop where
  b : belows n (S.take n) = true
  l : n ≤ S.length
theorem Tot.fin {r : Res Flow} {n : Nat} {Q : W → Store → Prop} (h : Tot r fun f S1 => Sok n S1 ∧ match f with
    | .ret (.d x) => Q (.d x) (S1.take n)
    | .nx _ => Q (.d .non) (S1.take n)
    | _ => False) : Tot (finish false n r) Q := by
  cases r with
  | ok f S1 =>
    obtain ⟨s, q⟩ := h.h
    cases f with
    | nx η => simp only [finish, close, s.b, s.l, and_self, if_true, freeze]; exact ⟨q⟩
    | ret w =>
      cases w with
      | d x => simp only [finish, close, s.b, s.l, and_self, if_true, freeze]; exact ⟨q⟩
      | _ => exact q.elim
    | _ => exact q.elim
  | exc _ _ _ => exact h.h.elim
  | stk => exact h.h.elim
/-! ### loops -/
section
variable {set : W → Env → Store → Res Env} {tst : Env → Store → Res Bool} {elt : Env → Store → Res W} {body : Env → Store → Res Flow} {η : Env}
/-- a comprehension whose turns tell each one thing -/
theorem Tot.lcG (P : D → Prop) (J : Nat → Store → Prop) {xs : List D} (ht : ∀ η S, tst η S = .ok true S) (hs : ∀ x ∈ xs, ∀ k S, J k S → k < xs.length → Tot ((set (.d x) η S).bnd fun η1 S1 => elt η1 S1) fun w S' => ∃ y, w = .d y ∧ P y ∧ J (k + 1) S') :
    ∀ (ys acc : List D) (k : Nat) (S : Store), (∀ y ∈ ys, y ∈ xs) → k + ys.length = xs.length → acc.length + ys.length ≤ line → (∀ y ∈ acc, P y) → J k S → Tot (lcFix set tst elt η ys acc S) fun zs S' => zs.length = acc.length + ys.length ∧ (∀ z ∈ zs, P z) ∧ J xs.length S'
  | [], acc, k, S, _, hk, _, ha, hj => by simp at hk; subst hk; simp [lcFix]; exact ⟨ha, hj⟩
  | x :: ys, acc, k, S, hm, hk, hl, ha, hj => by
    simp only [List.length_cons] at hk hl
    have h1 := hs x (hm x (by simp)) k S hj (by omega)
    rw [lcFix, lcTurn]
    simp only [bind_bnd]
    simp only [ht, bind_assoc', Res.bind_ok, bnd_ok, if_true]
    cases e : set (.d x) η S with
    | ok η1 S1 =>
      rw [e] at h1
      rw [bnd_ok] at h1
      simp only [bnd_ok, ht, if_true, bind_assoc']
      refine h1.seq ?_
      rintro w S2 ⟨y, rfl, py, j2⟩
      simp only [toD_d, Res.bind_ok, bnd_ok]
      rw [if_pos (show acc.length < line by omega)]
      rw [bnd_ok]
      refine (Tot.lcG P J ht hs ys (acc ++ [y]) (k + 1) S2 (fun z hz => hm z (by simp [hz])) (by omega) (by simp; omega) (by
        intro z hz
        rcases List.mem_append.mp hz with hz | hz
        · exact ha z hz
        · simp at hz; subst hz; exact py) j2).mono ?_
      rintro zs S' ⟨h1, h2, h3⟩
      exact ⟨by rw [h1]; simp; omega, h2, h3⟩
    | exc _ _ _ => rw [e] at h1; exact h1.h.elim
    | stk => rw [e] at h1; exact h1.h.elim
/-- a comprehension with a test -/
theorem Tot.lcF (P : D → Prop) (J : Nat → Store → Prop) {xs : List D} (hs : ∀ x ∈ xs, ∀ k acc S, J k S → k < xs.length → acc.length < line → Tot (lcTurn set tst elt η x acc S) fun acc' S' => (acc' = acc ∨ ∃ y, P y ∧ acc' = acc ++ [y]) ∧ J (k + 1) S') :
    ∀ (ys acc : List D) (k : Nat) (S : Store), (∀ y ∈ ys, y ∈ xs) → k + ys.length = xs.length → acc.length + ys.length ≤ line → (∀ y ∈ acc, P y) → J k S → Tot (lcFix set tst elt η ys acc S) fun zs S' => zs.length ≤ acc.length + ys.length ∧ (∀ z ∈ zs, P z) ∧ J xs.length S'
  | [], acc, k, S, _, hk, _, ha, hj => by simp at hk; subst hk; simp [lcFix]; exact ⟨ha, hj⟩
  | x :: ys, acc, k, S, hm, hk, hl, ha, hj => by
    simp only [List.length_cons] at hk hl
    rw [lcFix]
    try simp only [bind_bnd]
    refine (hs x (hm x (by simp)) k acc S hj (by omega) (by omega)).seq ?_
    rintro acc' S2 ⟨h1, j2⟩
    have h3 : acc'.length ≤ acc.length + 1 ∧ ∀ y ∈ acc', P y := by
      rcases h1 with rfl | ⟨y, py, rfl⟩
      · exact ⟨by omega, ha⟩
      · exact ⟨by simp, fun z hz => by
          rcases List.mem_append.mp hz with hz | hz
          · exact ha z hz
          · simp at hz; subst hz; exact py⟩
    refine (Tot.lcF P J hs ys acc' (k + 1) S2 (fun z hz => hm z (by simp [hz])) (by omega) (by omega) h3.2 j2).mono ?_
    rintro zs S' ⟨h1, h2, h3⟩
    exact ⟨by simp; omega, h2, h3⟩
/-- a for loop by an invariant over what is to come -/
theorem Tot.for_ {Q : Flow → Store → Prop} (I : List D → Env → Store → Prop) (hs : ∀ x xs η S, I (x :: xs) η S → Tot ((set (.d x) η S).bnd fun η1 S1 => body η1 S1) fun f S' => match f with
    | .nx η2 => I xs η2 S'
    | .cont η2 => I xs η2 S'
    | .brk η2 => Q (.nx η2) S'
    | .ret w => Q (.ret w) S') (hd : ∀ η S, I [] η S → Q (.nx η) S) :
    ∀ (xs : List D) (η : Env) (S : Store), I xs η S → Tot (forFix set body xs η S) Q
  | [], η, S, h => by simp [forFix]; exact hd η S h
  | x :: xs, η, S, h => by
    have h1 := hs x xs η S h
    rw [forFix]
    try simp only [bind_bnd]
    rw [Tot_noExc_bind]
    cases e : set (.d x) η S with
    | ok η1 S1 =>
      rw [e] at h1
      rw [bnd_ok] at h1 ⊢
      refine h1.seq ?_
      intro f S2 q
      cases f with
      | nx η2 => exact Tot.for_ I hs hd xs η2 S2 q
      | cont η2 => exact Tot.for_ I hs hd xs η2 S2 q
      | brk η2 => exact ⟨q⟩
      | ret w => exact ⟨q⟩
    | exc _ _ _ => rw [e] at h1; exact h1.h.elim
    | stk => rw [e] at h1; exact h1.h.elim
/-- a while loop by an invariant and a measure -/
theorem Tot.whl {c : Env → Store → Res Bool} {Q : Flow → Store → Prop} (I : Nat → Env → Store → Prop) (hs : ∀ m η S, I m η S → Tot (c η S) fun b S1 => if b = true then Tot (body η S1) fun f S2 => match f with
      | .nx η2 => ∃ m', m' < m ∧ I m' η2 S2
      | .cont η2 => ∃ m', m' < m ∧ I m' η2 S2
      | .brk η2 => Q (.nx η2) S2
      | .ret w => Q (.ret w) S2
    else Q (.nx η) S1) : ∀ (n m : Nat) (η : Env) (S : Store), m < n → I m η S → Tot (whileL c body n η S) Q
  | 0, m, η, S, hm, _ => absurd hm (Nat.not_lt_zero _)
  | n + 1, m, η, S, hm, hi => by
    rw [whileL]
    try simp only [bind_bnd]
    refine (hs m η S hi).seq ?_
    intro b S1 q
    cases b with
    | false => simpa using q
    | true =>
      simp only [if_true] at q ⊢
      refine q.seq ?_
      intro f S2 q2
      cases f with
      | nx η2 => obtain ⟨m', h1, h2⟩ := q2; exact Tot.whl I hs n m' η2 S2 (by omega) h2
      | cont η2 => obtain ⟨m', h1, h2⟩ := q2; exact Tot.whl I hs n m' η2 S2 (by omega) h2
      | brk η2 => exact ⟨q2⟩
      | ret w => exact ⟨q2⟩
end
theorem cut_to {α : Type} (xs : List α) (k : Nat) : cut xs none (some (k : Int)) = xs.take k := by
  unfold cut
  rw [HT.sIx_nat, HT.sIx_none, List.drop_zero, Nat.sub_zero]
  by_cases h : k ≤ xs.length
  · rw [Nat.min_eq_left h]
  · rw [Nat.min_eq_right (by omega), List.take_of_length_le (Nat.le_refl _), List.take_of_length_le (by omega)]
theorem cut_from {α : Type} (xs : List α) (k : Nat) : cut xs (some (k : Int)) none = xs.drop k := by
  unfold cut
  rw [HT.sIx_nat, HT.sIx_none]
  by_cases h : k ≤ xs.length
  · rw [Nat.min_eq_left h, List.take_of_length_le (by rw [List.length_drop]; exact Nat.le_refl _)]
  · rw [Nat.min_eq_right (by omega), List.drop_eq_nil_of_le (Nat.le_refl _), List.drop_eq_nil_of_le (by omega), List.take_nil]
theorem cut_last {α : Type} (xs : List α) : cut xs none (some (-1)) = xs.dropLast := by
  unfold cut
  rw [HT.sIx_none, List.drop_zero, Nat.sub_zero, List.dropLast_eq_take]
  congr 1
  have : HT.sIx xs.length xs.length (some (-1)) = ((-1 : Int) + (xs.length : Int)).toNat := rfl
  rw [this]
  omega
theorem cut_map {α β : Type} (f : α → β) (xs : List α) (lo hi : Option Int) : cut (xs.map f) lo hi = (cut xs lo hi).map f := by
  unfold cut
  simp [List.map_take, List.map_drop]
theorem intsOf_map : ∀ ns : List Int, intsOf (ns.map .int) = some ns
  | [] => rfl
  | n :: r => by simp [intsOf, intsOf_map r]
theorem ints_ex : ∀ {zs : List D}, (∀ z ∈ zs, ∃ c : Int, z = .int c) → ∃ cs : List Int, zs = cs.map .int
  | [], _ => ⟨[], rfl⟩
  | z :: zs, h => by
    obtain ⟨c, rfl⟩ := h z (by simp)
    obtain ⟨cs, rfl⟩ := ints_ex (zs := zs) (fun y hy => h y (by simp [hy]))
    exact ⟨c :: cs, rfl⟩
/-- a comprehension that only reckons -/
theorem lcNm {C : Ctx} {i : Nat} {e : IE} {η : Env} {S : Store} (g : D → D) {xs : List D} (hl : xs.length ≤ line) (hi : i < η.length) (he : ∀ x ∈ xs, (evalP C e).1 (η.set i (some (.d x))) S = .ok (.d (g x)) S) :
    lcSrc (setT C (.nm i)) (evalC C .no) (evalP C e).1 η (.fix xs) S = .ok (xs.map g) S := by
  have key : ∀ (ys acc : List D), (∀ y ∈ ys, y ∈ xs) → acc.length + ys.length ≤ line → lcFix (setT C (.nm i)) (evalC C .no) (evalP C e).1 η ys acc S = .ok (acc ++ ys.map g) S := by
    intro ys
    induction ys with
    | nil => intro acc _ _; simp [lcFix]
    | cons y ys ih =>
      intro acc hm hl
      simp only [List.length_cons] at hl
      rw [lcFix, lcTurn]
      simp only [bind_bnd]
      rw [st_nm, if_pos hi, bnd_ok, ec_no]
      simp only [Res.bind_ok, bnd_ok, if_true]
      rw [he y (hm y (by simp)), bnd_ok, toD_d, bnd_ok, if_pos (show acc.length < line by omega), bnd_ok]
      have := ih (acc ++ [g y]) (fun z hz => hm z (by simp [hz])) (by simp; omega)
      first | rw [this] | (rw [ec_no] at this; rw [this])
      simp
  show lcFix _ _ _ _ xs [] S = _
  rw [key xs [] (fun _ h => h) (by simpa using hl)]
  simp
/-- the same over pairs -/
theorem lcNm2 {C : Ctx} {i j : Nat} {e : IE} {η : Env} {S : Store} (g : D → D) {xs : List D} (hl : xs.length ≤ line) (hi : i < η.length) (hj : j < η.length) (he : ∀ x ∈ xs, ∃ a b, x = .tup [a, b] ∧ (evalP C e).1 ((η.set i (some (.d a))).set j (some (.d b))) S = .ok (.d (g x)) S) :
    lcSrc (setT C (.tup (.cons (.nm i) (.cons (.nm j) .nil)))) (evalC C .no) (evalP C e).1 η (.fix xs) S = .ok (xs.map g) S := by
  have key : ∀ (ys acc : List D), (∀ y ∈ ys, y ∈ xs) → acc.length + ys.length ≤ line → lcFix (setT C (.tup (.cons (.nm i) (.cons (.nm j) .nil)))) (evalC C .no) (evalP C e).1 η ys acc S = .ok (acc ++ ys.map g) S := by
    intro ys
    induction ys with
    | nil => intro acc _ _; simp [lcFix]
    | cons y ys ih =>
      intro acc hm hl
      simp only [List.length_cons] at hl
      obtain ⟨a, b, rfl, hv⟩ := he y (hm y (by simp))
      rw [lcFix, lcTurn]
      simp only [bind_bnd]
      rw [st_tup]
      simp only [sq_tup, sts_cons, sts_nil, st_nm, hi, if_true, Res.bind_ok, bnd_ok, List.length_set, hj, ec_no]
      rw [hv, bnd_ok, toD_d, bnd_ok, if_pos (show acc.length < line by omega), bnd_ok]
      have := ih (acc ++ [g (.tup [a, b])]) (fun z hz => hm z (by simp [hz])) (by simp; omega)
      first | rw [this] | (rw [ec_no] at this; rw [this])
      simp
  show lcFix _ _ _ _ xs [] S = _
  rw [key xs [] (fun _ h => h) (by simpa using hl)]
  simp
theorem allB_map {α : Type} (p : α → Bool) : ∀ xs : List α, allB (xs.map fun x => .bl (p x)) = some (xs.all p)
  | [] => rfl
  | x :: xs => by simp [allB, allB_map p xs]
/-- a def whose end is a thing told -/
theorem runD {P : Prog} {fu n f : Nat} {fd : FnD} {ws : List W} {S : Store} {x : D} (h1 : P.fns[f]? = some fd) (h2 : ws.length = fd.np) (hk : fd.keep = false) (hS : belows S.length S = true)
    (h : execSs ⟨callF P fu n, P, fu⟩ fd.body (startE fd.N.length ws) S = .ok (.ret (.d x)) S) : callF P fu (n + 1) f ws S = .ok (.d x) S := by
  rw [runT h1 h2, h, hk]
  simp [finish, close, hS, freeze]
theorem runX {P : Prog} {fu n f : Nat} {fd : FnD} {ws : List W} {S : Store} {c : Nat} {fs : List (Nat × D)} (h1 : P.fns[f]? = some fd) (h2 : ws.length = fd.np) (hk : fd.keep = false) (hS : belows S.length S = true)
    (h : execSs ⟨callF P fu n, P, fu⟩ fd.body (startE fd.N.length ws) S = .exc c fs S) : callF P fu (n + 1) f ws S = .exc c fs S := by
  rw [runT h1 h2, h, hk]
  simp [finish, hS]
/-- an item of a written list -/
theorem ix_in {xs : List D} {i : Int} (h0 : 0 ≤ i) (h1 : i < xs.length) : ∃ x ∈ xs, L2.atI xs i = some x := by
  obtain ⟨k, rfl⟩ : ∃ k : Nat, i = (k : Int) := ⟨i.toNat, by omega⟩
  have hk : k < xs.length := by omega
  refine ⟨xs[k], List.getElem_mem hk, L2.atI_nat (List.getElem?_eq_getElem hk)⟩
end RI
/-! EU: the steps of the gcd loop, whatever the size of its numbers. -/
namespace EU
open RI
def eu (x y : Nat) : Nat := if h : y = 0 then 0 else eu y (x % y) + 1
termination_by y
decreasing_by exact Nat.mod_lt _ (Nat.pos_of_ne_zero h)
theorem eu_zero (x : Nat) : eu x 0 = 0 := by rw [eu]; simp
theorem eu_pos {x y : Nat} (h : y ≠ 0) : eu x y = eu y (x % y) + 1 := by rw [eu]; simp [h]
theorem mod_half {y z : Nat} (h : z < y) (h0 : z ≠ 0) : 2 * (y % z) < y := by
  have h1 : y % z < z := Nat.mod_lt _ (Nat.pos_of_ne_zero h0)
  have h2 := Nat.div_add_mod y z
  have h3 : 1 ≤ y / z := (Nat.le_div_iff_mul_le (Nat.pos_of_ne_zero h0)).mpr (by omega)
  have h4 : z * 1 ≤ z * (y / z) := Nat.mul_le_mul_left z h3
  omega
theorem eu_le : ∀ (b x y : Nat), y < 2 ^ b → eu x y ≤ 2 * b
  | 0, x, y, h => by
    have : y = 0 := by simp at h; exact h
    subst this
    rw [eu_zero]
    exact Nat.zero_le _
  | b + 1, x, y, h => by
    by_cases hy : y = 0
    · subst hy; rw [eu_zero]; exact Nat.zero_le _
    · rw [eu_pos hy]
      have hz : x % y < y := Nat.mod_lt _ (Nat.pos_of_ne_zero hy)
      generalize x % y = z at hz
      by_cases h0 : z = 0
      · subst h0; rw [eu_zero]; omega
      · rw [eu_pos h0]
        have h1 := mod_half hz h0
        have h2 : y % z < 2 ^ b := by rw [Nat.pow_succ] at h; omega
        have := eu_le b z (y % z) h2
        omega
theorem eu_log {x y : Nat} : eu x y ≤ 2 * (y.log2 + 1) := eu_le _ _ _ Nat.lt_log2_self
end EU
/-! PV: comprehensions and loops over what is mapped. -/
namespace RI
section
variable {C : Ctx} {η : Env} {S : Store} {α β : Type}
/-- a comprehension that only reckons, over what is mapped -/
theorem lcMap {i : Nat} {e : IE} (f g : α → D) {zs : List α} (hl : zs.length ≤ line) (hi : i < η.length) (he : ∀ z ∈ zs, (evalP C e).1 (η.set i (some (.d (f z)))) S = .ok (.d (g z)) S) :
    lcSrc (setT C (.nm i)) (evalC C .no) (evalP C e).1 η (.fix (zs.map f)) S = .ok (zs.map g) S := by
  have key : ∀ (ys : List α) (acc : List D), (∀ y ∈ ys, y ∈ zs) → acc.length + ys.length ≤ line → lcFix (setT C (.nm i)) (evalC C .no) (evalP C e).1 η (ys.map f) acc S = .ok (acc ++ ys.map g) S := by
    intro ys
    induction ys with
    | nil => intro acc _ _; simp [lcFix]
    | cons y ys ih =>
      intro acc hm hl
      simp only [List.length_cons] at hl
      rw [List.map_cons, lcFix, lcTurn]
      simp only [bind_bnd]
      rw [st_nm, if_pos hi, bnd_ok, ec_no]
      simp only [Res.bind_ok, bnd_ok, if_true]
      rw [he y (hm y (by simp)), bnd_ok, toD_d, bnd_ok, if_pos (show acc.length < line by omega), bnd_ok]
      have := ih (acc ++ [g y]) (fun z hz => hm z (by simp [hz])) (by simp; omega)
      first | rw [this] | (rw [ec_no] at this; rw [this])
      simp
  show lcFix _ _ _ _ (zs.map f) [] S = _
  rw [key zs [] (fun _ h => h) (by simpa using hl)]
  simp
theorem lcMap2 {i j : Nat} {e : IE} (f f2 g : α → D) {zs : List α} (hl : zs.length ≤ line) (hi : i < η.length) (hj : j < η.length) (he : ∀ z ∈ zs, (evalP C e).1 ((η.set i (some (.d (f z)))).set j (some (.d (f2 z)))) S = .ok (.d (g z)) S) :
    lcSrc (setT C (.tup (.cons (.nm i) (.cons (.nm j) .nil)))) (evalC C .no) (evalP C e).1 η (.fix (zs.map fun z => .tup [f z, f2 z])) S = .ok (zs.map g) S := by
  have key : ∀ (ys : List α) (acc : List D), (∀ y ∈ ys, y ∈ zs) → acc.length + ys.length ≤ line → lcFix (setT C (.tup (.cons (.nm i) (.cons (.nm j) .nil)))) (evalC C .no) (evalP C e).1 η (ys.map fun z => .tup [f z, f2 z]) acc S = .ok (acc ++ ys.map g) S := by
    intro ys
    induction ys with
    | nil => intro acc _ _; simp [lcFix]
    | cons y ys ih =>
      intro acc hm hl
      simp only [List.length_cons] at hl
      rw [List.map_cons, lcFix, lcTurn]
      simp only [bind_bnd]
      rw [st_tup]
      simp only [sq_tup, sts_cons, sts_nil, st_nm, hi, if_true, Res.bind_ok, bnd_ok, List.length_set, hj, ec_no]
      rw [he y (hm y (by simp)), bnd_ok, toD_d, bnd_ok, if_pos (show acc.length < line by omega), bnd_ok]
      have := ih (acc ++ [g y]) (fun z hz => hm z (by simp [hz])) (by simp; omega)
      first | rw [this] | (rw [ec_no] at this; rw [this])
      simp
  show lcFix _ _ _ _ (zs.map fun z => .tup [f z, f2 z]) [] S = _
  rw [key zs [] (fun _ h => h) (by simpa using hl)]
  simp
/-- the same with a test -/
theorem lcFil {i : Nat} {e c : IE} (f g : α → D) (p : α → Bool) {zs : List α} (hl : zs.length ≤ line) (hi : i < η.length) (hc : ∀ z ∈ zs, (evalP C c).2 (η.set i (some (.d (f z)))) S = .ok (p z) S) (he : ∀ z ∈ zs, p z = true → (evalP C e).1 (η.set i (some (.d (f z)))) S = .ok (.d (g z)) S) :
    lcSrc (setT C (.nm i)) (evalC C (.yes c)) (evalP C e).1 η (.fix (zs.map f)) S = .ok ((zs.filter p).map g) S := by
  have key : ∀ (ys : List α) (acc : List D), (∀ y ∈ ys, y ∈ zs) → acc.length + ys.length ≤ line → lcFix (setT C (.nm i)) (evalC C (.yes c)) (evalP C e).1 η (ys.map f) acc S = .ok (acc ++ (ys.filter p).map g) S := by
    intro ys
    induction ys with
    | nil => intro acc _ _; simp [lcFix]
    | cons y ys ih =>
      intro acc hm hl
      simp only [List.length_cons] at hl
      rw [List.map_cons, lcFix, lcTurn]
      simp only [bind_bnd]
      rw [st_nm, if_pos hi, bnd_ok, ec_yes, hc y (hm y (by simp)), bnd_ok]
      rw [ec_yes] at ih
      cases hp : p y with
      | true =>
        simp only [if_true]
        rw [he y (hm y (by simp)) hp, bnd_ok, toD_d, bnd_ok, if_pos (show acc.length < line by omega), bnd_ok]
        rw [ih (acc ++ [g y]) (fun z hz => hm z (by simp [hz])) (by simp; omega)]
        simp [hp]
      | false =>
        simp only [Bool.false_eq_true, if_false, bnd_ok]
        rw [ih acc (fun z hz => hm z (by simp [hz])) (by omega)]
        simp [hp]
  show lcFix _ _ _ _ (zs.map f) [] S = _
  rw [key zs [] (fun _ h => h) (by simpa using hl)]
  simp
theorem lcFil2 {i j : Nat} {e c : IE} (f f2 g : α → D) (p : α → Bool) {zs : List α} (hl : zs.length ≤ line) (hi : i < η.length) (hj : j < η.length) (hc : ∀ z ∈ zs, (evalP C c).2 ((η.set i (some (.d (f z)))).set j (some (.d (f2 z)))) S = .ok (p z) S) (he : ∀ z ∈ zs, p z = true → (evalP C e).1 ((η.set i (some (.d (f z)))).set j (some (.d (f2 z)))) S = .ok (.d (g z)) S) :
    lcSrc (setT C (.tup (.cons (.nm i) (.cons (.nm j) .nil)))) (evalC C (.yes c)) (evalP C e).1 η (.fix (zs.map fun z => .tup [f z, f2 z])) S = .ok ((zs.filter p).map g) S := by
  have key : ∀ (ys : List α) (acc : List D), (∀ y ∈ ys, y ∈ zs) → acc.length + ys.length ≤ line → lcFix (setT C (.tup (.cons (.nm i) (.cons (.nm j) .nil)))) (evalC C (.yes c)) (evalP C e).1 η (ys.map fun z => .tup [f z, f2 z]) acc S = .ok (acc ++ (ys.filter p).map g) S := by
    intro ys
    induction ys with
    | nil => intro acc _ _; simp [lcFix]
    | cons y ys ih =>
      intro acc hm hl
      simp only [List.length_cons] at hl
      rw [List.map_cons, lcFix, lcTurn]
      simp only [bind_bnd]
      rw [st_tup]
      simp only [sq_tup, sts_cons, sts_nil, st_nm, hi, if_true, Res.bind_ok, bnd_ok, List.length_set, hj, ec_yes]
      rw [hc y (hm y (by simp)), bnd_ok]
      cases hp : p y with
      | true =>
        simp only [if_true]
        rw [he y (hm y (by simp)) hp, bnd_ok, toD_d, bnd_ok, if_pos (show acc.length < line by omega), bnd_ok]
        rw [ih (acc ++ [g y]) (fun z hz => hm z (by simp [hz])) (by simp; omega)]
        simp [hp]
      | false =>
        simp only [Bool.false_eq_true, if_false, bnd_ok]
        rw [ih acc (fun z hz => hm z (by simp [hz])) (by omega)]
        simp [hp]
  show lcFix _ _ _ _ (zs.map fun z => .tup [f z, f2 z]) [] S = _
  rw [key zs [] (fun _ h => h) (by simpa using hl)]
  simp
end
/-- a comprehension over a cell's list -/
theorem lcLoc_fix {set : W → Env → Store → Res Env} {tst : Env → Store → Res Bool} {elt : Env → Store → Res W} {η : Env} {S : Store} {l : Nat} {ys : List D} {zs : List D} (h : S[l]? = some (.lst ys)) (hp : ∀ y ∈ ys, ∀ acc acc' S', lcTurn set tst elt η y acc S = .ok acc' S' → S' = S)
    (hf : lcFix set tst elt η ys [] S = .ok zs S) : lcSrc set tst elt η (.loc l ys.length) S = .ok zs S := by
  have key : ∀ (n i : Nat) (acc : List D), i + n = ys.length → lcFix set tst elt η (ys.drop i) acc S = .ok zs S → lcLoc set tst elt η l n i acc S = .ok zs S := by
    intro n
    induction n with
    | zero =>
      intro i acc hi hf
      rw [List.drop_of_length_le (by omega), lcFix] at hf
      rw [lcLoc, h]
      simp only
      rw [if_pos (by omega)]
      exact hf
    | succ n ih =>
      intro i acc hi hf
      have hlt : i < ys.length := by omega
      rw [List.drop_eq_getElem_cons hlt, lcFix] at hf
      rw [lcLoc, h]
      simp only [List.getElem?_eq_getElem hlt]
      cases e : lcTurn set tst elt η ys[i] acc S with
      | ok a S' =>
        have := hp _ (List.getElem_mem hlt) _ _ _ e
        subst this
        rw [e, Res.bind_ok] at hf
        rw [Res.bind_ok]
        exact ih (i + 1) a (by omega) hf
      | exc _ _ _ => rw [e] at hf; exact absurd hf (by simp)
      | stk => rw [e] at hf; exact absurd hf (by simp)
  exact key ys.length 0 [] (by omega) (by simpa using hf)
theorem lcMapL {C : Ctx} {η : Env} {S : Store} {α : Type} {i l : Nat} {e : IE} (f g : α → D) {zs : List α} (h : S[l]? = some (.lst (zs.map f))) (hl : zs.length ≤ line) (hi : i < η.length) (he : ∀ z ∈ zs, (evalP C e).1 (η.set i (some (.d (f z)))) S = .ok (.d (g z)) S) :
    lcSrc (setT C (.nm i)) (evalC C .no) (evalP C e).1 η (.loc l zs.length) S = .ok (zs.map g) S := by
  have h2 := lcMap (C := C) (η := η) (S := S) f g hl hi he
  have h3 := lcLoc_fix (set := setT C (.nm i)) (tst := evalC C .no) (elt := (evalP C e).1) (η := η) h ?_ h2
  · rw [List.length_map] at h3
    exact h3
  · intro y hy acc acc' S' ht
    obtain ⟨z, hz, rfl⟩ := List.mem_map.mp hy
    rw [lcTurn] at ht
    simp only [bind_bnd] at ht
    rw [st_nm, if_pos hi, bnd_ok, ec_no] at ht
    simp only [Res.bind_ok, bnd_ok, if_true] at ht
    rw [he z hz, bnd_ok, toD_d, bnd_ok] at ht
    by_cases hc : acc.length < line
    · rw [if_pos hc] at ht
      injection ht with h1 h2
      exact h2.symm
    · rw [if_neg hc] at ht
      exact absurd ht (by simp)
section
variable {set : W → Env → Store → Res Env} {body : Env → Store → Res Flow} {α β : Type}
/-- a loop as a fold -/
theorem Tot.forF (f : α → D) (step : β → α → β) (I : β → Env → Store → Prop) {all : List α} (hs : ∀ z ∈ all, ∀ b η S, I b η S → Tot ((set (.d (f z)) η S).bnd fun η1 S1 => body η1 S1) fun fl S' => ∃ η', fl = .nx η' ∧ I (step b z) η' S') :
    ∀ (zs : List α) (b : β) (η : Env) (S : Store), (∀ z ∈ zs, z ∈ all) → I b η S → Tot (forFix set body (zs.map f) η S) fun fl S' => ∃ η', fl = .nx η' ∧ I (zs.foldl step b) η' S'
  | [], b, η, S, _, h => by simp [forFix]; exact h
  | z :: zs, b, η, S, hm, h => by
    have h1 := hs z (hm z (by simp)) b η S h
    rw [List.map_cons, forFix]
    simp only [bind_bnd]
    rw [Tot_noExc_bind]
    cases e : set (.d (f z)) η S with
    | ok η1 S1 =>
      rw [e, bnd_ok] at h1
      rw [bnd_ok]
      refine h1.seq ?_
      rintro _ S2 ⟨η2, rfl, i2⟩
      exact Tot.forF f step I hs zs (step b z) η2 S2 (fun y hy => hm y (by simp [hy])) i2
    | exc _ _ _ => rw [e] at h1; exact h1.h.elim
    | stk => rw [e] at h1; exact h1.h.elim
/-- a loop as a fold, by an invariant over what is left -/
theorem Tot.forR (f : α → D) (step : β → α → β) (I : List α → β → Env → Store → Prop) (hs : ∀ z zs b η S, I (z :: zs) b η S → Tot ((set (.d (f z)) η S).bnd fun η1 S1 => body η1 S1) fun fl S' => ∃ η', fl = .nx η' ∧ I zs (step b z) η' S') :
    ∀ (zs : List α) (b : β) (η : Env) (S : Store), I zs b η S → Tot (forFix set body (zs.map f) η S) fun fl S' => ∃ η', fl = .nx η' ∧ I [] (zs.foldl step b) η' S'
  | [], b, η, S, h => by simp [forFix]; exact h
  | z :: zs, b, η, S, h => by
    have h1 := hs z zs b η S h
    rw [List.map_cons, forFix]
    simp only [bind_bnd]
    rw [Tot_noExc_bind]
    cases e : set (.d (f z)) η S with
    | ok η1 S1 =>
      rw [e, bnd_ok] at h1
      rw [bnd_ok]
      refine h1.seq ?_
      rintro _ S2 ⟨η2, rfl, i2⟩
      exact Tot.forR f step I hs zs (step b z) η2 S2 i2
    | exc _ _ _ => rw [e] at h1; exact h1.h.elim
    | stk => rw [e] at h1; exact h1.h.elim
/-- a loop that asks all -/
theorem Tot.forA (f : α → D) (p : α → Bool) (x : W) (I : Env → Store → Prop) {all : List α} (hs : ∀ z ∈ all, ∀ η S, I η S → Tot ((set (.d (f z)) η S).bnd fun η1 S1 => body η1 S1) fun fl S' => if p z = true then ∃ η', (fl = .nx η' ∨ fl = .cont η') ∧ I η' S' else fl = .ret x ∧ ∃ η', I η' S') :
    ∀ (zs : List α) (η : Env) (S : Store), (∀ z ∈ zs, z ∈ all) → I η S → Tot (forFix set body (zs.map f) η S) fun fl S' => if zs.all p = true then ∃ η', fl = .nx η' ∧ I η' S' else fl = .ret x ∧ ∃ η', I η' S'
  | [], η, S, _, h => by simp [forFix]; exact h
  | z :: zs, η, S, hm, h => by
    have h1 := hs z (hm z (by simp)) η S h
    rw [List.map_cons, forFix]
    simp only [bind_bnd]
    rw [Tot_noExc_bind]
    cases e : set (.d (f z)) η S with
    | ok η1 S1 =>
      rw [e, bnd_ok] at h1
      rw [bnd_ok]
      refine h1.seq ?_
      intro fl S2 h2
      cases hp : p z with
      | true =>
        rw [hp, if_pos rfl] at h2
        obtain ⟨η2, hfl, i2⟩ := h2
        have ih := Tot.forA f p x I hs zs η2 S2 (fun y hy => hm y (by simp [hy])) i2
        rw [List.all_cons, hp, Bool.true_and]
        rcases hfl with rfl | rfl <;> exact ih
      | false =>
        rw [hp] at h2
        simp only [Bool.false_eq_true, if_false] at h2
        obtain ⟨rfl, i2⟩ := h2
        simp [hp]
        exact i2
    | exc _ _ _ => rw [e] at h1; exact h1.h.elim
    | stk => rw [e] at h1; exact h1.h.elim
end
theorem ixN_nat {n k : Nat} (h : k < n) : L2.ixN n (k : Int) = some k := by
  unfold L2.ixN
  simp [h]
/-- a def whose end is a thing told; what it made for itself is let go -/
theorem runDT {P : Prog} {fu n f : Nat} {fd : FnD} {ws : List W} {S : Store} {x : D} (h1 : P.fns[f]? = some fd) (h2 : ws.length = fd.np) (hk : fd.keep = false) (hS : belows S.length S = true)
    (h : Tot (execSs ⟨callF P fu n, P, fu⟩ fd.body (startE fd.N.length ws) S) fun fl S' => fl = .ret (.d x) ∧ ∃ L, S' = S ++ L) : callF P fu (n + 1) f ws S = .ok (.d x) S := by
  rw [runT h1 h2]
  obtain ⟨fl, S', e, rfl, L, rfl⟩ := h.ex
  rw [e, hk]
  simp [finish, close, hS, freeze]
/-- a def that ends with a new list -/
theorem runDL {P : Prog} {fu n f : Nat} {fd : FnD} {ws : List W} {S : Store} {xs : List D} (h1 : P.fns[f]? = some fd) (h2 : ws.length = fd.np) (hk : fd.keep = false) (hS : belows S.length S = true)
    (h : Tot (execSs ⟨callF P fu n, P, fu⟩ fd.body (startE fd.N.length ws) S) fun fl S' => ∃ l L, fl = .ret (.loc (S.length + l)) ∧ S' = S ++ L ∧ L[l]? = some (.lst xs)) : callF P fu (n + 1) f ws S = .ok (.d (.lst xs)) S := by
  rw [runT h1 h2]
  obtain ⟨fl, S', e, l, L, rfl, rfl, hl⟩ := h.ex
  rw [e, hk]
  have h3 : ¬ S.length + l < S.length := by omega
  have h4 : (S ++ L)[S.length + l]? = some (.lst xs) := by
    rw [List.getElem?_append_right (by omega), Nat.add_sub_cancel_left]
    exact hl
  simp [finish, close, hS, freeze, h3, h4, cellD]
@[simp] theorem at_len {S : Store} {c : Cell} {L : Store} : (S ++ c :: L)[S.length]? = some c := by simp
@[simp] theorem at_len1 {S : Store} {c d : Cell} {L : Store} : (S ++ c :: d :: L)[S.length + 1]? = some d := by simp
@[simp] theorem set_len {S : Store} {c c' : Cell} {L : Store} : (S ++ c :: L).set S.length c' = S ++ c' :: L := by simp
@[simp] theorem set_len1 {S : Store} {c d d' : Cell} {L : Store} : (S ++ c :: d :: L).set (S.length + 1) d' = S ++ c :: d' :: L := by
  rw [List.set_append_right _ _ (by omega)]
  rw [show S.length + 1 - S.length = 1 by omega]
  rfl
theorem belows_lst {S : Store} {L : Store} (hS : belows S.length S = true) (hL : ∀ c ∈ L, ∃ xs, c = .lst xs) : belows (S ++ L).length (S ++ L) = true := by
  simp only [belows, List.all_append, Bool.and_eq_true, List.all_eq_true] at *
  refine ⟨fun c hc => ?_, fun c hc => ?_⟩
  · have h1 := hS c hc
    cases c with
    | lsw ws =>
      simp only [cellBelow, List.all_eq_true] at *
      intro w hw
      have := h1 w hw
      cases w <;> simp_all [wBelow]
      omega
    | ins k fs =>
      simp only [cellBelow, List.all_eq_true] at *
      intro w hw
      have := h1 w hw
      rcases w with ⟨i, w⟩
      cases w <;> simp_all [wBelow]
      omega
    | _ => rfl
  · obtain ⟨xs, rfl⟩ := hL c hc
    rfl
theorem allB_all {α : Type} (p : α → Bool) (xs : List α) {g : α → D} (h : ∀ x ∈ xs, g x = .bl (p x)) : allB (xs.map g) = some (xs.all p) := by
  rw [← allB_map]
  congr 1
  exact List.map_congr_left h
/-- it goes on, and so -/
def TQ (P : Env → Store → Prop) (_u : Tag P := Tag.mk) : Flow → Store → Prop := fun f S' => ∃ η', f = .nx η' ∧ P η' S'
theorem TQ.mk {P : Env → Store → Prop} {u : Tag P} {η : Env} {S : Store} (h : P η S) : TQ P u (.nx η) S := ⟨η, rfl, h⟩
theorem Tot.st {C : Ctx} {s : IS} {ss : ISs} {η : Env} {S : Store} {Q : Flow → Store → Prop} (P : Env → Store → Prop) (h : Tot (execS C s η S) (TQ P)) (k : ∀ η' S', P η' S' → Tot (execSs C ss η' S') Q) : Tot (execSs C (.cons s ss) η S) Q := by
  rw [ss_cons']
  refine h.seq ?_
  rintro _ S' ⟨η', rfl, h⟩
  exact k η' S' h
theorem Tot.se {C : Ctx} {s : IS} {ss : ISs} {η η' : Env} {S : Store} {Q : Flow → Store → Prop} (h : execS C s η S = .ok (.nx η') S) (k : Tot (execSs C ss η' S) Q) : Tot (execSs C (.cons s ss) η S) Q := by
  rw [ss_cons', h]
  exact k
end RI
/-! PW: running the evaluator by simp, the nodes of session 4 (dicts, sorted, reversed, methods). -/
namespace RI
section
variable {C : Ctx} {η : Env} {S : Store}
@[simp] theorem ev_meth {e m es} : (evalP C (.meth e m es)).1 η S = ((evalP C e).1 η S).bnd fun o S1 => match methOf C.P m o es.len S1 with
    | some f => (evalEs C es η S1).bnd fun ws S2 => C.call f (o :: ws) S2
    | none => .stk := id rfl
@[simp] theorem ev_meth_t {e m es} : (evalP C (.meth e m es)).2 η S = ((evalP C (.meth e m es)).1 η S).bnd fun x S1 => ofO (truthy x S1) S1 := id rfl
@[simp] theorem ev_dix {a b} : (evalP C (.dix a b)).1 η S = ((evalP C a).1 η S).bnd fun x S1 => ((evalP C b).1 η S1).bnd fun y S2 => match dgetD x y S2 with
    | some (some z) => .ok (.d z) S2
    | _ => .stk := id rfl
@[simp] theorem ev_dix_t {a b} : (evalP C (.dix a b)).2 η S = ((evalP C (.dix a b)).1 η S).bnd fun x S1 => ofO (truthy x S1) S1 := id rfl
@[simp] theorem ev_din {n a b} : (evalP C (.din n b a)).1 η S = ((evalP C b).1 η S).bnd fun y S1 => ((evalP C a).1 η S1).bnd fun x S2 => match dgetD x y S2 with
    | some o => .ok (.d (.bl (if n then !o.isSome else o.isSome))) S2
    | none => .stk := id rfl
@[simp] theorem ev_din_t {n a b} : (evalP C (.din n b a)).2 η S = ((evalP C (.din n b a)).1 η S).bnd fun x S1 => ofO (truthy x S1) S1 := id rfl
@[simp] theorem ev_dget {a b c} : (evalP C (.dget a b c)).1 η S = ((evalP C a).1 η S).bnd fun x S1 => if (dicOf x S1).isSome = true then ((evalP C b).1 η S1).bnd fun y S2 => ((evalP C c).1 η S2).bnd fun z S3 => match dgetD x y S3, z with
    | some o, .d z => .ok (.d (o.getD z)) S3
    | _, _ => .stk else .stk := id rfl
@[simp] theorem ev_dget_t {a b c} : (evalP C (.dget a b c)).2 η S = ((evalP C (.dget a b c)).1 η S).bnd fun x S1 => ofO (truthy x S1) S1 := id rfl
@[simp] theorem ev_dkeys {a} : (evalP C (.dkeys a)).1 η S = ((evalP C a).1 η S).bnd fun x S1 => match dicOf x S1 with
    | some kvs => .ok (.d (.lst (kvs.map (·.1)))) S1
    | none => .stk := id rfl
@[simp] theorem ev_dkeys_t {a} : (evalP C (.dkeys a)).2 η S = ((evalP C (.dkeys a)).1 η S).bnd fun x S1 => ofO (truthy x S1) S1 := id rfl
@[simp] theorem ev_dlen {a} : (evalP C (.dlen a)).1 η S = ((evalP C a).1 η S).bnd fun x S1 => match dicOf x S1 with
    | some kvs => .ok (.d (.int kvs.length)) S1
    | none => .stk := id rfl
@[simp] theorem ev_dlen_t {a} : (evalP C (.dlen a)).2 η S = ((evalP C (.dlen a)).1 η S).bnd fun x S1 => ofO (truthy x S1) S1 := id rfl
@[simp] theorem ev_srt {a} : (evalP C (.srt a)).1 η S = ((evalP C a).1 η S).bnd fun x S1 => match (lstOf x S1).bind intsOf with
    | some ns => if ns.length < 64 then .ok (.d (.lst ((sortI ns).map .int))) S1 else .stk
    | none => .stk := id rfl
@[simp] theorem ev_srt_t {a} : (evalP C (.srt a)).2 η S = ((evalP C (.srt a)).1 η S).bnd fun x S1 => ofO (truthy x S1) S1 := id rfl
@[simp] theorem ev_rev {a} : (evalP C (.rev a)).1 η S = ((evalP C a).1 η S).bnd fun x S1 => match x with
    | .d (.tup xs) => if xs.length ≤ 1000 then .ok (.d (.tup xs.reverse)) S1 else .stk
    | .d (.lst xs) => if xs.length ≤ 1000 then .ok (.d (.lst xs.reverse)) S1 else .stk
    | _ => .stk := id rfl
@[simp] theorem ev_rev_t {a} : (evalP C (.rev a)).2 η S = ((evalP C (.rev a)).1 η S).bnd fun x S1 => ofO (truthy x S1) S1 := id rfl
@[simp] theorem ev_kget {k a d} : (evalP C (.kget k a d)).1 η S = ((evalP C a).1 η S).bnd fun x S1 => match x with
    | .d (.str s) => ((evalP C d).1 η S1).bnd fun z S2 => match z, C.P.tabs[k]? with
      | .d z, some T => .ok (.d ((tabD T s).getD z)) S2
      | _, _ => .stk
    | _ => .stk := id rfl
@[simp] theorem ev_kget_t {k a d} : (evalP C (.kget k a d)).2 η S = ((evalP C (.kget k a d)).1 η S).bnd fun x S1 => ofO (truthy x S1) S1 := id rfl
@[simp] theorem ev_dpr {a} : (evalP C (.dpr a)).1 η S = ((evalP C a).1 η S).bnd fun x S1 => match (lstOf x S1).bind (dofP []) with
    | some kvs => .ok (.d (.dic kvs)) S1
    | none => .stk := id rfl
@[simp] theorem ev_dnew : (evalP C .dnew).1 η S = .ok (.loc S.length) (S ++ [.dct []]) := id rfl
end
section
variable {C : Ctx} {η : Env} {S : Store}
@[simp] theorem cm_nes {s t : List Nat} : cmpW C .ne (.d (.str s)) (.d (.str t)) S = .ok (.d (.bl (!decide (s = t)))) S := by
  have e : eqOwn C (.d (.str s)) (.d (.str t)) S = none := id rfl
  unfold cmpW
  simp only [e, cmpD, eqD, ofO_some, Res.bind_ok, bnd_ok, Option.map_some]
theorem in_strs {c : List Nat} {ls : List (List Nat)} : cmpW C .inn (.d (.str c)) (.d (.tup (ls.map .str))) S = .ok (.d (.bl (decide (c ∈ ls)))) S := by
  have h2 : (ls.map D.str).all flatD = true := by simp [flatD]
  have h3 : inD (.d (.str c)) (.d (.tup (ls.map .str))) S = some (decide (c ∈ ls)) := by
    have e : inD (.d (.str c)) (.d (.tup (ls.map .str))) S = pyIn .tup (.str c) (ls.map .str) := by
      rcases c with _ | ⟨a, _ | ⟨b, r⟩⟩ <;> rfl
    rw [e]
    unfold pyIn
    rw [h2, show flatD (D.str c) = true from rfl]
    simp only [Bool.and_self, if_true]
    congr 1
    rw [Bool.eq_iff_iff]
    simp [eqF]
  unfold cmpW
  simp only [cmpD, h3, ofO_some, Res.bind_ok, bnd_ok]
@[simp] theorem in_str2 {c a b : List Nat} : cmpW C .inn (.d (.str c)) (.d (.tup [.str a, .str b])) S = .ok (.d (.bl (decide (c = a) || decide (c = b)))) S := by
  have h := in_strs (C := C) (S := S) (c := c) (ls := [a, b])
  simpa using h
theorem atJ_nat {α : Type} {xs : List α} {k : Nat} {x : α} (h : xs[k]? = some x) : L2.atI xs (k : Int) = some x := by
  have hk : k < xs.length := by
    have := List.getElem?_eq_some_iff.mp h
    exact this.1
  unfold L2.atI
  rw [ixN_nat hk]
  exact h
theorem atJ_map {α β : Type} (f : α → β) {xs : List α} {k : Nat} {x : α} (h : xs[k]? = some x) : L2.atI (xs.map f) (k : Int) = some (f x) := atJ_nat (by simp [h])
end
end RI
/-! QP: the pool of draws of the laws. -/
namespace QP
open RI
abbrev poolb0 : ISs := (.cons (.asg (.nm 1) (.bin .mod (.bi .int (.cons (.bin .add (.bin .add (.bin .mul (.var 1) (.int 48271)) (.bin .mod (.bi .int (.cons (.var 2) .nil)) (.int 2147483629))) (.int 11)) .nil)) (.int 2147483647))) .nil)
abbrev poolc0 : IE := .lc (.bi .abs (.cons (.var 2) .nil)) [2] (.nm 2) (.seq (.sl (.var 0) .no (.yes (.int 63)))) (.yes (.cmp .ge (.bi .abs (.cons (.var 2) .nil)) (.bin .pow (.int 10) (.int 18))))
abbrev pools0 : IS := (.asg (.nm 1) (.bin .add (.bin .add (.bin .mod (.bi .int (.cons (.bi .sum (.cons (.sl (.var 0) .no (.yes (.int 1))) .nil)) .nil)) (.int 1000003)) (.bi .len (.cons (.var 0) .nil))) (.int 1)))
abbrev pools1 : IS := (.for_ (.nm 2) (.seq (.sl (.var 0) .no (.yes (.int 63)))) poolb0)
abbrev pools2 : IS := (.ret (.lsw (.cons (.var 1) (.cons (.int 0) (.cons (.thaw (poolc0)) .nil)))))
def pool : FnD := { name := "_law_pool", N := ["script", "seed", "cell"], np := 1, keep := true, top := true, body := (.cons pools0 (.cons pools1 (.cons pools2 .nil))) }
abbrev draws0 : IS := (.asg (.sub (.var 0) (.int 1)) (.bin .add (.ix (.var 0) (.int 1)) (.int 1)))
abbrev draws1 : IS := (.asg (.nm 2) (.ix (.var 0) (.int 2)))
abbrev draws2 : IS := (.ife (.cmp .gt (.bi .len (.cons (.var 2) .nil)) (.int 0)) (.cons (.asg (.nm 4) (.bin .mod (.bi .int (.cons (.ix (.var 2) (.int 0)) .nil)) (.var 1))) (.cons (.asg (.sub (.var 2) (.int 0)) (.bin .fdiv (.bi .int (.cons (.ix (.var 2) (.int 0)) .nil)) (.var 1))) (.cons (.ife (.cmp .eq (.ix (.var 2) (.int 0)) (.int 0)) (.cons (.expr (.bm (.var 2) .pop (.cons (.int 0) .nil))) .nil) .nil) (.cons (.ret (.var 4)) .nil)))) .nil)
abbrev draws3 : IS := (.asg (.nm 3) (.bin .mod (.bi .int (.cons (.bin .mul (.bin .add (.ix (.var 0) (.int 0)) (.bin .mul (.int 7919) (.ix (.var 0) (.int 1)))) (.int 48271)) .nil)) (.int 2147483647)))
abbrev draws4 : IS := (.asg (.nm 3) (.bin .mod (.bi .int (.cons (.bin .mul (.var 3) (.bin .add (.bin .fdiv (.var 3) (.int 1009)) (.int 69621))) .nil)) (.int 2147483647)))
abbrev draws5 : IS := (.asg (.nm 3) (.bin .mod (.bi .int (.cons (.bin .mul (.var 3) (.bin .add (.bin .fdiv (.var 3) (.int 2003)) (.int 40692))) .nil)) (.int 2147483399)))
abbrev draws6 : IS := (.ret (.bin .mod (.bi .int (.cons (.bin .fdiv (.var 3) (.int 16)) .nil)) (.var 1)))
def draw (v : PySem.Str) : FnD := { name := "_law_draw", N := ["pool", "many", "cells", v, "digit"], np := 2, keep := false, top := true, body := (.cons draws0 (.cons draws1 (.cons draws2 (.cons draws3 (.cons draws4 (.cons draws5 (.cons draws6 .nil))))))) }
structure Po where
  cs : List Int
  seed : Int
  cnt : Int
def Po.st (p : Po) : Store := [.lst (p.cs.map .int), .lsw [.d (.int p.seed), .d (.int p.cnt), .loc 0]]
structure Po.Ok (N : Nat) (p : Po) : Prop where
  s0 : 0 ≤ p.seed
  s1 : p.seed < 2147483647
  c0 : 0 ≤ p.cnt
  c1 : p.cnt ≤ N
  ln : p.cs.length ≤ 63
theorem Po.Ok.up {N M : Nat} {p : Po} (h : p.Ok N) (l : N ≤ M) : p.Ok M := ⟨h.s0, h.s1, h.c0, by have := h.c1; omega, h.ln⟩
theorem bits_small {i j : Int} (h1 : i.natAbs < 2 ^ 400) (h2 : j.natAbs < 2 ^ 400) : bitsOk i j = true := by
  have a : i.natAbs.log2 ≤ 400 := by
    by_cases e : i.natAbs = 0
    · rw [e]; decide
    · exact Nat.le_of_lt ((Nat.log2_lt e).mpr h1)
  have b : j.natAbs.log2 ≤ 400 := by
    by_cases e : j.natAbs = 0
    · rw [e]; decide
    · exact Nat.le_of_lt ((Nat.log2_lt e).mpr h2)
  simp only [bitsOk, decide_eq_true_eq]
  omega
theorem lt400 {i : Int} {b : Nat} (h0 : 0 ≤ i) (h1 : i < b) (hb : b ≤ 2 ^ 400) : i.natAbs < 2 ^ 400 := Nat.lt_of_lt_of_le (by omega) hb
theorem mul_nn {a b : Int} {m n : Nat} (a0 : 0 ≤ a) (a1 : a < m) (b0 : 0 ≤ b) (b1 : b < n) : 0 ≤ a * b ∧ a * b < (m * n : Nat) := by
  refine ⟨Int.mul_nonneg a0 b0, ?_⟩
  have h1 : a * b ≤ a * (n : Int) := Int.mul_le_mul_of_nonneg_left (by omega) a0
  have h2 : a * (n : Int) < (m : Int) * n := Int.mul_lt_mul_of_pos_right a1 (by omega)
  have h3 : ((m * n : Nat) : Int) = (m : Int) * n := by simp
  rw [h3]
  omega
theorem fmod_rng (a : Int) {m : Int} (h : 0 < m) : 0 ≤ a.fmod m ∧ a.fmod m < m := ⟨Int.fmod_nonneg_of_pos a h, Int.fmod_lt_of_pos a h⟩
theorem fdiv_rng {a : Int} {m : Int} {b : Nat} (h : 0 < m) (a0 : 0 ≤ a) (a1 : a < b) : 0 ≤ a.fdiv m ∧ a.fdiv m < b := by
  rw [Int.fdiv_eq_ediv_of_nonneg a (by omega)]
  refine ⟨Int.ediv_nonneg a0 (by omega), ?_⟩
  have := Int.ediv_le_self m a0
  omega
/-- the last steps of a draw -/
theorem mixed {N : Nat} {p : Po} (h : p.Ok N) (hN : N < 1000000000) : bitsOk 7919 (p.cnt + 1) = true ∧ bitsOk (p.seed + 7919 * (p.cnt + 1)) 48271 = true ∧
    ∀ a : Int, 0 ≤ a → a < 2147483647 → bitsOk a (a.fdiv 1009 + 69621) = true ∧ bitsOk a (a.fdiv 2003 + 40692) = true := by
  obtain ⟨s0, s1, c0, c1, _⟩ := h
  have big : (10 : Nat) ^ 30 ≤ 2 ^ 400 := by decide
  refine ⟨bits_small (by decide) (lt400 (b := 10 ^ 30) (by omega) (by omega) big), bits_small (lt400 (b := 10 ^ 30) (by omega) (by omega) big) (by decide), fun a a0 a1 => ?_⟩
  have q1 := fdiv_rng (m := 1009) (b := 2147483647) (by decide) a0 (by omega)
  have q2 := fdiv_rng (m := 2003) (b := 2147483647) (by decide) a0 (by omega)
  exact ⟨bits_small (lt400 (b := 10 ^ 30) a0 (by omega) big) (lt400 (b := 10 ^ 30) (by omega) (by omega) big), bits_small (lt400 (b := 10 ^ 30) a0 (by omega) big) (lt400 (b := 10 ^ 30) (by omega) (by omega) big)⟩
section
variable {P : Prog} {fu n i N : Nat} {p : Po} {T : Store} {m : Int}
theorem sok_pool {T : Store} (hT : ∀ k, belows k T = true) : Sok (2 + T.length) (p.st ++ T) := by
  refine ⟨?_, by simp [Po.st]; omega⟩
  rw [List.take_of_length_le (by simp [Po.st]; omega)]
  have := hT (2 + T.length)
  simp only [belows, List.all_append, Bool.and_eq_true] at this ⊢
  refine ⟨?_, this⟩
  simp [Po.st, cellBelow, wBelow]
  omega
theorem draw_ok {v : PySem.Str} (hP : P.fns[i]? = some (draw v)) (h : p.Ok N) (hN : N < 1000000000) (hm : 0 < m) (hm2 : m < 18446744073709551616) (hT : ∀ k, belows k T = true) {Q : W → Store → Prop}
    (hQ : ∀ (r : Int) (p' : Po), 0 ≤ r → r < m → p'.Ok (N + 1) → Q (.d (.int r)) (p'.st ++ T)) : Tot (callF P fu (n + 1) i [.loc 1, .d (.int m)] (p.st ++ T)) Q := by
  obtain ⟨b1, b2, b3⟩ := mixed h hN
  obtain ⟨s0, s1, c0, c1, ln⟩ := h
  have hfd := fdB_pos hm hm2
  have hl : (p.st ++ T).length = 2 + T.length := by simp [Po.st]; omega
  rw [runT (fd := draw v) hP rfl]
  generalize (Ctx.mk (callF P fu n) P fu) = C
  refine Tot.fin ?_
  rw [hl]
  have fin : ∀ (r : Int) (p' : Po), 0 ≤ r → r < m → p'.Ok (N + 1) → Sok (2 + T.length) (p'.st ++ T) ∧ Q (.d (.int r)) ((p'.st ++ T).take (2 + T.length)) := fun r p' r0 r1 k => ⟨sok_pool hT, by
    rw [List.take_of_length_le (by simp [Po.st]; omega)]
    exact hQ r p' r0 r1 k⟩
  have nz : m ≠ 0 := by omega
  obtain ⟨cs, seed, cnt⟩ := p
  simp only at s0 s1 c0 c1 ln b1 b2 b3
  have ixN1 : L2.ixN 3 1 = some 1 := by decide
  have ixN0 : ∀ k : Nat, L2.ixN (k + 1) 0 = some 0 := fun k => by
    unfold L2.ixN
    simp
    try omega
  cases cs with
  | nil =>
    have r1 := fmod_rng ((seed + 7919 * (cnt + 1)) * 48271) (m := 2147483647) (by decide)
    have r2 := fmod_rng ((((seed + 7919 * (cnt + 1)) * 48271).fmod 2147483647) * ((((seed + 7919 * (cnt + 1)) * 48271).fmod 2147483647).fdiv 1009 + 69621)) (m := 2147483647) (by decide)
    simp [draw, startE, getV, ixN1, Po.st, b1, b2, (b3 _ r1.1 r1.2).1, (b3 _ r2.1 r2.2).2, nz]
    exact fin _ ⟨[], seed, cnt + 1⟩ (fmod_rng _ hm).1 (fmod_rng _ hm).2 ⟨s0, s1, by simp only; omega, by simp only; omega, by simp⟩
  | cons c cs =>
    simp only [List.length_cons] at ln
    have e0 := ixN0 cs.length
    have hr := fmod_rng c hm
    by_cases z : c.fdiv m = 0
    · have := fin _ ⟨cs, seed, cnt + 1⟩ hr.1 hr.2 ⟨s0, s1, by simp only; omega, by simp only; omega, by simp only; omega⟩
      simp [draw, startE, getV, ixN1, e0, Po.st, nz, hfd, z]
      simp [Po.st] at this
      exact this
    · have := fin _ ⟨c.fdiv m :: cs, seed, cnt + 1⟩ hr.1 hr.2 ⟨s0, s1, by simp only; omega, by simp only; omega, by simp only [List.length_cons]; omega⟩
      simp [draw, startE, getV, ixN1, e0, Po.st, nz, hfd, z]
      simp [Po.st] at this
      exact this
theorem pool_ok (hP : P.fns[i]? = some pool) {xs : List Int} (hx : xs.length ≤ 63) {Q : W → Store → Prop} (hQ : ∀ p : Po, p.Ok 0 → Q (.loc 1) p.st) : Tot (callF P fu (n + 1) i [.scr xs] []) Q := by
  rw [runT (fd := pool) hP rfl]
  generalize (Ctx.mk (callF P fu n) P fu) = C
  have hl : xs.length ≤ line := Nat.le_trans hx (by decide)
  have t1 : cut (xs.map D.int) none (some 1) = (xs.take 1).map D.int := by rw [cut_map]; exact congrArg _ (cut_to xs 1)
  have t63 : cut (xs.map D.int) none (some 63) = xs.map D.int := by
    rw [cut_map]
    exact congrArg _ ((cut_to xs 63).trans (List.take_of_length_le hx))
  have s1 : slD (.scr xs) none (some 1) [] = some (.lst ((xs.take 1).map .int)) := by show some (D.lst (cut (xs.map D.int) none (some 1))) = _; rw [t1]
  have r0 := fmod_rng ((xs.take 1).sum) (m := 1000003) (by decide)
  generalize xs.take 1 = y1 at s1 r0
  have s63 : slD (.scr xs) none (some 63) [] = some (.lst (xs.map .int)) := by show some (D.lst (cut (xs.map D.int) none (some 63))) = _; rw [t63]
  have hsum : ∀ ys : List Int, biD .sum [.d (.lst (ys.map .int))] [] = some (.int ys.sum) := fun ys => by
    show (intsOf (ys.map D.int)).map (fun ns => D.int ns.sum) = _
    rw [intsOf_map]; rfl
  have hlen : biD .len [.scr xs] [] = some (.int xs.length) := by simp [biD, seqOf]
  suffices h : Tot (execSs C pool.body (startE pool.N.length [.scr xs]) []) fun f S => f = .ret (.loc 1) ∧ ∃ p : Po, p.Ok 0 ∧ S = p.st by
    obtain ⟨f, S, e, rfl, p, hp, rfl⟩ := h.ex
    rw [e]
    exact ⟨hQ p hp⟩
  simp [pool, startE, getV, s1, hsum, hlen, s63]
  refine Tot.seq (P := fun f S => S = [] ∧ ∃ sd o, f = Flow.nx [some (.scr xs), some (.d (.int sd)), o] ∧ 0 ≤ sd ∧ sd < 2147483647) (Tot.for_ (fun ys η S => S = [] ∧ (∀ y ∈ ys, y ∈ xs.map D.int) ∧ ∃ sd o, η = [some (.scr xs), some (.d (.int sd)), o] ∧ 0 ≤ sd ∧ sd < 2147483647) ?_ ?_ _ _ _ ⟨rfl, fun y hy => hy, _, _, rfl, by omega, by omega⟩) ?_
  · rintro y ys η S ⟨rfl, hy, sd, o, rfl, h0, h1⟩
    obtain ⟨c, _, rfl⟩ := List.mem_map.mp (hy y (by simp))
    have b := bits_small (i := sd) (j := 48271) (lt400 (b := 10 ^ 30) h0 (by omega) (by decide)) (by decide)
    simp [getV, b]
    exact ⟨fun z hz => by simpa using hy z (by simp [hz]), fmod_rng _ (by decide)⟩
  · rintro η S ⟨rfl, _, sd, o, rfl, h0, h1⟩
    exact ⟨rfl, sd, o, rfl, h0, h1⟩
  · rintro f S ⟨rfl, sd, o, rfl, h0, h1⟩
    simp [getV]
    have key := Tot.lcF (set := setT C (.nm 2)) (tst := evalC C (.yes (.cmp .ge (.bi .abs (.cons (.var 2) .nil)) (.bin .pow (.int 10) (.int 18))))) (elt := (evalP C (.bi .abs (.cons (.var 2) .nil))).1) (η := wipeE [some (.scr xs), some (.d (.int sd)), o] [2])
      (fun y => ∃ c : Int, y = .int c) (fun _ S => S = []) (xs := xs.map .int) (by
        rintro x hx k acc S rfl hk hac
        obtain ⟨c, _, rfl⟩ := List.mem_map.mp hx
        by_cases hc : (10 : Int) ^ 18 ≤ (if c < 0 then -c else c)
        · simp [lcTurn, getV, wipeE, ec_yes, hc, hac]
        · simp [lcTurn, getV, wipeE, ec_yes, hc, hac]) (xs.map .int) [] 0 [] (fun _ h => h) (by simp) (by simpa using hl) (by simp) rfl
    simp [s63, lcSrc]
    refine key.seq ?_
    rintro zs S ⟨h2, h3, rfl⟩
    obtain ⟨cs, rfl⟩ := ints_ex h3
    simp
    exact ⟨⟨cs, sd, 0⟩, ⟨h0, h1, by simp, by simp, by simp at h2; simp; omega⟩, rfl⟩
end
end QP
/-! K1: numbers, lots, rows judged by the program. -/
namespace K07
open RI
def pl : D → Bool
  | .fn _ => false
  | .obj _ _ => false
  | _ => true
def isI : D → Bool
  | .int _ => true
  | _ => false
def inR (x : D) (a b : Int) : Bool := match x with
  | .int i => decide (a ≤ i) && decide (i ≤ b)
  | _ => false
def isT : D → Bool
  | .tup _ => true
  | _ => false
def numB (x : D) : Bool := match x with
  | .tup [.int a, .int b] => decide (0 < b) && decide (Int.gcd a b = 1)
  | _ => false
def rowB (n : Nat) (x : D) : Bool := match x with
  | .tup xs => decide (xs.length = n) && xs.all numB
  | _ => false
def isPr : D → Bool
  | .tup xs => decide (xs.length = 2)
  | _ => false
def isSz (x : D) (a b : Int) : Bool := match x with
  | .tup xs => decide (a ≤ xs.length) && decide ((xs.length : Int) ≤ b)
  | _ => false
structure Ng (x : D) : Prop where
  p : pl x = true
  t : ∀ xs, x = .tup xs → ∀ y ∈ xs, pl y = true ∧ ∀ i, y = .int i → i.natAbs.log2 < 3000
structure Rg (x : D) : Prop where
  p : pl x = true
  t : ∀ xs, x = .tup xs → xs.length ≤ 100 ∧ ∀ y ∈ xs, Ng y
variable {fu n : Nat} {S : Store}
theorem F1 {x : D} (hS : belows S.length S = true) (hx : pl x = true) : callF Ir.P fu (n + 1) 2 [.d x] S = .ok (.d (.bl (isI x))) S := by
  refine runD (fd := Ir.f2) rfl rfl rfl hS ?_
  generalize hC : (Ctx.mk (callF Ir.P fu n) Ir.P fu) = C
  have hP : C.P = Ir.P := by rw [← hC]
  cases x <;> (first | (simp [pl] at hx; done) | simp [Ir.f2, startE, getV, tyOk0, tyIs, isI])
theorem F2 {x : D} {a b : Int} (hS : belows S.length S = true) (hx : pl x = true) : callF Ir.P fu (n + 2) 3 [.d x, .d (.int a), .d (.int b)] S = .ok (.d (.bl (inR x a b))) S := by
  refine runD (fd := Ir.f3) rfl rfl rfl hS ?_
  have e1 := F1 (fu := fu) (n := n) hS hx
  generalize callF Ir.P fu (n + 1) = cf at *
  cases x <;> (first | (simp [pl] at hx; done) | simp [Ir.f3, startE, getV, e1, isI, inR])
  rename_i i
  by_cases h : a ≤ i <;> simp [h]
theorem F3 {x : D} (hS : belows S.length S = true) (hx : pl x = true) : callF Ir.P fu (n + 1) 4 [.d x] S = .ok (.d (.bl (isPr x))) S := by
  refine runD (fd := Ir.f4) rfl rfl rfl hS ?_
  generalize callF Ir.P fu n = cf
  cases x <;> (first | (simp [pl] at hx; done) | simp [Ir.f4, startE, getV, tyOk0, tyIs, isPr])
  rename_i xs
  by_cases h : xs.length = 2
  · simp [h]
  · have : ¬ (xs.length : Int) = 2 := by omega
    simp [h, this]
theorem F4 {x : D} {a b : Int} (hS : belows S.length S = true) (hx : pl x = true) : callF Ir.P fu (n + 1) 5 [.d x, .d (.int a), .d (.int b)] S = .ok (.d (.bl (isSz x a b))) S := by
  refine runD (fd := Ir.f5) rfl rfl rfl hS ?_
  generalize callF Ir.P fu n = cf
  cases x <;> (first | (simp [pl] at hx; done) | simp [Ir.f5, startE, getV, tyOk0, tyIs, isSz])
  rename_i xs
  by_cases h : a ≤ (xs.length : Int) <;> simp [h]
end K07
/-! K2: numbers, rows, lots. -/
namespace K07
open RI EU
variable {fu n : Nat} {S : Store}
theorem abs_nat (i : Int) : (if i < 0 then -i else i) = (i.natAbs : Int) := by split <;> omega
theorem F6 {a b : Int} (hS : belows S.length S = true) (hb : 2 * (b.natAbs.log2 + 1) < fu) : callF Ir.P fu (n + 1) 7 [.d (.int a), .d (.int b)] S = .ok (.d (.int (Int.gcd a b))) S := by
  refine runD (fd := Ir.f7) rfl rfl rfl hS ?_
  generalize callF Ir.P fu n = cf
  suffices h : Tot (execSs ⟨cf, Ir.P, fu⟩ Ir.f7.body (startE Ir.f7.N.length [.d (.int a), .d (.int b)]) S) fun f S' => f = .ret (.d (.int (Int.gcd a b))) ∧ S' = S by
    obtain ⟨f, S', e, rfl, rfl⟩ := h.ex
    exact e
  simp [Ir.f7, startE, getV, setNs, abs_nat]
  refine Tot.seq (P := fun f S' => S' = S ∧ f = Flow.nx [some (.d (.int (Int.gcd a b))), some (.d (.int 0))]) (Tot.whl (fun m η S' => S' = S ∧ ∃ x y : Nat, η = [some (.d (.int x)), some (.d (.int y))] ∧ Nat.gcd x y = Int.gcd a b ∧ m = eu x y) ?_ _ (eu a.natAbs b.natAbs) _ _ (Nat.lt_of_le_of_lt eu_log hb) ⟨rfl, _, _, rfl, rfl, rfl⟩) ?_
  · rintro m η S' ⟨rfl, x, y, rfl, hg, hm⟩
    subst hm
    by_cases hy : y = 0
    · subst hy
      simp [getV]
      rw [← hg]; simp
    · have : ¬ (y : Int) = 0 := by omega
      simp [getV, this, setNs, hy]
      refine ⟨eu y (x % y), by rw [eu_pos hy]; omega, y, x % y, ⟨rfl, (Int.ofNat_fmod x y).symm⟩, ?_, rfl⟩
      rw [← hg, Nat.gcd_comm y, ← Nat.gcd_rec, Nat.gcd_comm]
  · rintro f S' ⟨rfl, rfl⟩
    simp [getV]
theorem F7 {x : D} (hS : belows S.length S = true) (hfu : 1000000 < fu) (hx : Ng x) : callF Ir.P fu (n + 2) 8 [.d x] S = .ok (.d (.bl (numB x))) S := by
  refine runD (fd := Ir.f8) rfl rfl rfl hS ?_
  have e3 := F3 (fu := fu) (n := n) hS hx.p
  have e1 : ∀ y, pl y = true → callF Ir.P fu (n + 1) 2 [.d y] S = .ok (.d (.bl (isI y))) S := fun y hy => F1 hS hy
  have e6 : ∀ a b : Int, b.natAbs.log2 < 3000 → callF Ir.P fu (n + 1) 7 [.d (.int a), .d (.int b)] S = .ok (.d (.int (Int.gcd a b))) S := fun a b h => F6 hS (by omega)
  generalize callF Ir.P fu (n + 1) = cf at *
  obtain ⟨hp, ht⟩ := hx
  by_cases hpr : isPr x = true
  · cases x <;> (first | (simp [isPr] at hpr; done) | skip)
    rename_i xs
    match xs, hpr, ht, e3 with
    | [a, b], _, ht, e3 =>
      have h2 := ht _ rfl
      have ha := h2 a (by simp)
      have hb := h2 b (by simp)
      have ea := e1 a ha.1
      have eb := e1 b hb.1
      by_cases ia : isI a = true
      · by_cases ib : isI b = true
        · obtain ⟨i, rfl⟩ : ∃ i, a = .int i := by cases a <;> simp_all [isI]
          obtain ⟨j, rfl⟩ : ∃ i, b = .int i := by cases b <;> simp_all [isI]
          have eg := e6 i j (hb.2 _ rfl)
          clear ia ib
          by_cases hj : 0 < j
          · simp [Ir.f8, startE, getV, e3, isPr, ea, eb, isI, eg, numB, hj]
            by_cases hg : Int.gcd i j = 1
            · simp [hg]
            · have : ¬ ((Int.gcd i j : Nat) : Int) = 1 := by omega
              simp [hg, this]
          · simp [Ir.f8, startE, getV, e3, isPr, ea, eb, isI, numB, hj]
        · simp only [Bool.not_eq_true] at ib
          simp [Ir.f8, startE, getV, e3, isPr, ea, eb, ia, ib]
          cases a <;> cases b <;> simp_all [numB, isI]
      · simp only [Bool.not_eq_true] at ia
        simp [Ir.f8, startE, getV, e3, isPr, ea, ia]
        cases a <;> simp_all [numB, isI]
  · simp only [Bool.not_eq_true] at hpr
    simp [Ir.f8, startE, getV, e3, hpr]
    cases x <;> simp [numB]
    rename_i xs
    match xs, hpr with
    | [], _ => simp [numB]
    | [a], _ => simp [numB]
    | [a, b], h => simp [isPr] at h
    | a :: b :: c :: r, _ => simp [numB]
theorem F8 {x : D} {k : Nat} (hS : belows S.length S = true) (hfu : 1000000 < fu) (hx : Rg x) : callF Ir.P fu (n + 3) 9 [.d x, .d (.int k)] S = .ok (.d (.bl (rowB k x))) S := by
  refine runD (fd := Ir.f9) rfl rfl rfl hS ?_
  have e7 : ∀ y, Ng y → callF Ir.P fu (n + 2) 8 [.d y] S = .ok (.d (.bl (numB y))) S := fun y hy => F7 hS hfu hy
  generalize callF Ir.P fu (n + 2) = cf at *
  obtain ⟨hp, ht⟩ := hx
  cases x <;> (first | (simp [pl] at hp; done) | simp [Ir.f9, startE, getV, tyOk0, tyIs, rowB])
  rename_i xs
  by_cases hl : xs.length = k
  · have h2 := ht _ rfl
    have key := lcNm (C := ⟨cf, Ir.P, fu⟩) (i := 2) (e := .call 8 (.cons (.var 2) .nil)) (η := [some (.d (.tup xs)), some (.d (.int k)), none]) (S := S) (fun y => .bl (numB y)) (xs := xs) (Nat.le_trans h2.1 (by decide)) (by simp) (fun y hy => by simp [getV, e7 y (h2.2 y hy)])
    simp [hl, wipeE, key, allB_map]
  · have : ¬ (xs.length : Int) = k := by omega
    simp [hl, this]
/-- strictly rising -/
def inc : List D → Bool
  | .int i :: .int j :: r => decide (i < j) && inc (.int j :: r)
  | _ => true
def lotB (x : D) (k : Nat) : Bool := match x with
  | .tup xs => xs.all (fun y => inR y 0 ((k : Int) - 1)) && inc xs
  | _ => false
structure Lg (x : D) : Prop where
  p : pl x = true
  t : ∀ xs, x = .tup xs → xs.length ≤ 60 ∧ ∀ y ∈ xs, pl y = true
theorem zip_drop : ∀ (xs : List D), (∀ y ∈ xs, isI y = true) → ((((xs.zip (xs.drop 1)).map fun p => D.tup [p.1, p.2]).map fun d => match d with
    | .tup [.int i, .int j] => D.bl (decide (i < j))
    | d => d)) = (((xs.zip (xs.drop 1)).map fun p => match p with
    | (.int i, .int j) => decide (i < j)
    | _ => true).map D.bl)
  | xs, h => by
    rw [List.map_map, List.map_map]
    apply List.map_congr_left
    rintro ⟨a, b⟩ hp
    have ha := h a (List.of_mem_zip hp).1
    have hb := h b (List.mem_of_mem_drop (List.of_mem_zip hp).2)
    cases a <;> (first | (simp [isI] at ha; done) | skip)
    cases b <;> (first | (simp [isI] at hb; done) | skip)
    rfl
theorem inc_zip : ∀ (xs : List D), (∀ y ∈ xs, isI y = true) → (((xs.zip (xs.drop 1)).map fun p => match p with
    | (.int i, .int j) => decide (i < j)
    | _ => true).all id) = inc xs
  | [], _ => rfl
  | [a], _ => by simp [inc]
  | a :: b :: r, h => by
    have ha := h a (by simp)
    have hb := h b (by simp)
    cases a <;> (first | (simp [isI] at ha; done) | skip)
    cases b <;> (first | (simp [isI] at hb; done) | skip)
    rename_i i j
    have ih := inc_zip (.int j :: r) (fun y hy => h y (by simp at hy ⊢; exact .inr hy))
    simp only [List.drop_succ_cons, List.drop_zero, List.zip_cons_cons, List.map_cons, List.all_cons, id, inc] at ih ⊢
    rw [← ih]
theorem allB_bls : ∀ bs : List Bool, allB (bs.map .bl) = some (bs.all id)
  | [] => rfl
  | b :: bs => by simp [allB, allB_bls bs]
theorem F5 {x : D} {k : Nat} (hS : belows S.length S = true) (hx : Lg x) : callF Ir.P fu (n + 3) 6 [.d x, .d (.int k)] S = .ok (.d (.bl (lotB x k))) S := by
  refine runD (fd := Ir.f6) rfl rfl rfl hS ?_
  have e2 : ∀ y a b, pl y = true → callF Ir.P fu (n + 2) 3 [.d y, .d (.int a), .d (.int b)] S = .ok (.d (.bl (inR y a b))) S := fun y a b hy => F2 hS hy
  generalize callF Ir.P fu (n + 2) = cf at *
  obtain ⟨hp, ht⟩ := hx
  cases x <;> (first | (simp [pl] at hp; done) | simp [Ir.f6, startE, getV, tyOk0, tyIs, lotB])
  rename_i xs
  have h2 := ht _ rfl
  have hl : xs.length ≤ line := Nat.le_trans h2.1 (by decide)
  have key := lcNm (C := ⟨cf, Ir.P, fu⟩) (i := 4) (e := .call 3 (.cons (.var 4) (.cons (.int 0) (.cons (.bin .sub (.var 1) (.int 1)) .nil)))) (η := [some (.d (.tup xs)), some (.d (.int k)), none, none, none]) (S := S) (fun y => .bl (inR y 0 ((k : Int) - 1))) (xs := xs) hl (by simp) (fun y hy => by simp [getV, e2 y _ _ (h2.2 y hy)])
  generalize hB : xs.all (fun y => inR y 0 ((k : Int) - 1)) = B
  have hB' : allB (xs.map fun y => .bl (inR y 0 ((k : Int) - 1))) = some B := by rw [allB_map, hB]
  simp [wipeE, key, hB']
  by_cases ha : xs.all (fun y => inR y 0 ((k : Int) - 1)) = true
  · have hi : ∀ y ∈ xs, isI y = true := fun y hy => by
      have := List.all_eq_true.mp ha y hy
      cases y <;> simp_all [inR, isI]
    have ha' := ha
    have key2 := lcNm2 (C := ⟨cf, Ir.P, fu⟩) (i := 2) (j := 3) (e := .cmp .lt (.var 2) (.var 3)) (η := [some (.d (.tup xs)), some (.d (.int k)), none, none, none]) (S := S) (fun d => match d with
      | .tup [.int i, .int j] => D.bl (decide (i < j))
      | d => d) (xs := (xs.zip (xs.drop 1)).map fun p => D.tup [p.1, p.2]) (by simp; omega) (by simp) (by simp) (fun y hy => by
        obtain ⟨⟨a, b⟩, hp, rfl⟩ := List.mem_map.mp hy
        have ha := hi a (List.of_mem_zip hp).1
        have hb := hi b (List.mem_of_mem_drop (List.of_mem_zip hp).2)
        cases a <;> (first | (simp [isI] at ha; done) | skip)
        cases b <;> (first | (simp [isI] at hb; done) | skip)
        exact ⟨_, _, rfl, by simp [getV]⟩)
    rw [zip_drop xs hi] at key2
    have hc : cut xs (some 1) none = xs.drop 1 := cut_from xs 1
    have hBt : B = true := by rw [← hB]; exact ha
    rw [hBt]
    simp [hc, getV, -List.drop_one, -List.map_map, wipeE, key2, allB_bls]
    rw [← inc_zip xs hi]
    simp [-List.drop_one]
  · have hBt : B = false := by rw [← hB]; exact eq_false_of_ne_true ha
    rw [hBt]
    simp
end K07
/-! K3: the law's own look at numbers and rows. -/
namespace K07
open RI EU
variable {fu n : Nat} {S : Store}
theorem gcd_pos {a b : Int} (h : 0 < b) : 0 < Int.gcd a b := Int.gcd_pos_of_ne_zero_right _ (by omega)
theorem gcd_le {a b : Int} (h : 0 < b) : (Int.gcd a b : Int) ≤ b := by
  have := Int.gcd_dvd_right a b
  exact Int.le_of_dvd h this
theorem log2_mono {a b : Nat} (h : a ≤ b) (h0 : a ≠ 0) : a.log2 ≤ b.log2 := by
  have h1 : a < 2 ^ (b.log2 + 1) := Nat.lt_of_le_of_lt h Nat.lt_log2_self
  have := (Nat.log2_lt h0).mpr h1
  omega
theorem fdB_gcd {a b : Int} (h : 0 < b) (hb : b.natAbs.log2 < 8000) : fdB (Int.gcd a b) = true := by
  have g0 := gcd_pos (a := a) h
  have g1 := gcd_le (a := a) h
  have h2 : ((Int.gcd a b : Int)).natAbs ≤ b.natAbs := by omega
  have := log2_mono h2 (by omega)
  simp only [fdB, decide_eq_true_eq]
  exact .inl ⟨by omega, by omega⟩
theorem F16 {a b : Int} (hS : belows S.length S = true) (hfu : 1000000 < fu) (h0 : 0 < b) (hb : b.natAbs.log2 < 8000) : callF Ir.P fu (n + 1) 41 [.d (.int a), .d (.int b)] S = .ok (.d (.tup [.int (a.fdiv (Int.gcd a b)), .int (b.fdiv (Int.gcd a b))])) S := by
  refine runD (fd := Ir.f41) rfl rfl rfl hS ?_
  generalize callF Ir.P fu n = cf
  have hf := fdB_gcd (a := a) h0 hb
  have hlg : eu a.natAbs b.natAbs < fu := Nat.lt_of_le_of_lt eu_log (by omega)
  suffices h : Tot (execSs ⟨cf, Ir.P, fu⟩ Ir.f41.body (startE Ir.f41.N.length [.d (.int a), .d (.int b)]) S) fun f S' => f = .ret (.d (.tup [.int (a.fdiv (Int.gcd a b)), .int (b.fdiv (Int.gcd a b))])) ∧ S' = S by
    obtain ⟨f, S', e, rfl, rfl⟩ := h.ex
    exact e
  simp [Ir.f41, startE, getV, setNs, abs_nat]
  refine Tot.seq (P := fun f S' => S' = S ∧ f = Flow.nx [some (.d (.int a)), some (.d (.int b)), some (.d (.int (Int.gcd a b))), some (.d (.int 0))]) (Tot.whl (fun m η S' => S' = S ∧ ∃ x y : Nat, η = [some (.d (.int a)), some (.d (.int b)), some (.d (.int x)), some (.d (.int y))] ∧ Nat.gcd x y = Int.gcd a b ∧ m = eu x y) ?_ _ (eu a.natAbs b.natAbs) _ _ hlg ⟨rfl, _, _, rfl, rfl, rfl⟩) ?_
  · rintro m η S' ⟨rfl, x, y, rfl, hg, hm⟩
    subst hm
    by_cases hy : y = 0
    · subst hy
      simp [getV]
      rw [← hg]; simp
    · have h2 : ¬ (y : Int) = 0 := by omega
      have h1 : 0 < y := by omega
      simp [getV, h2, h1, setNs, hy]
      refine ⟨eu y (x % y), by rw [eu_pos hy]; omega, y, x % y, ⟨rfl, (Int.ofNat_fmod x y).symm⟩, ?_, rfl⟩
      rw [← hg, Nat.gcd_comm y, ← Nat.gcd_rec, Nat.gcd_comm]
  · rintro f S' ⟨rfl, rfl⟩
    simp [getV, h0, hf]
theorem eq_num (a b c d : Int) : pyEq (.tup [.int a, .int b]) (.tup [.int c, .int d]) = some (decide (a = c) && decide (b = d)) := by
  unfold pyEq
  simp [toPD, toPDs, PySem.SeqAt.shaped, PySem.PyData.eqv, PySem.PyData.canLay0, PySem.PyData.canLayAll0, PySem.PyData.depth, PySem.PyData.depthAll]
  simp [PySem.PyData.eqvAll, PySem.PyData.eqv]
  rw [Bool.eq_iff_iff]
  simp
theorem low_same {a b : Int} (h : 0 < b) : (decide (a.fdiv (Int.gcd a b) = a) && decide (b.fdiv (Int.gcd a b) = b)) = decide (Int.gcd a b = 1) := by
  have g0 := gcd_pos (a := a) h
  by_cases e : Int.gcd a b = 1
  · rw [e]; simp
  · have : ¬ b.fdiv (Int.gcd a b) = b := by
      intro k
      rw [Int.fdiv_eq_ediv_of_nonneg b (by omega)] at k
      have h1 := Int.ediv_mul_le b (b := (Int.gcd a b : Int)) (by omega)
      rw [k] at h1
      have h2 : b * 2 ≤ b * (Int.gcd a b : Int) := Int.mul_le_mul_of_nonneg_left (by omega) (by omega)
      omega
    simp [this, e]
def okRow (k : Nat) (x : D) : Bool := match x with
  | .non => true
  | x => rowB k x
def badAt (k : Nat) : List D → Nat → Option Nat
  | [], _ => none
  | x :: r, i => if okRow k x = true then badAt k r (i + 1) else some i
def part (s : List Nat) : D := .tup [.str s]
def rowPart (i : Nat) : D := .tup [.str [114, 111, 119], .int i]
def sRows : List Nat := [114, 111, 119, 115]
def sLock : List Nat := [108, 111, 99, 107, 101, 100]
def sSpare : List Nat := [115, 112, 97, 114, 101]
def dueD (rows locked spare : D) : Option D := match rows with
  | .tup rs => if 1 ≤ rs.length ∧ rs.length ≤ 6 then (match badAt rs.length rs 0 with
    | some c => some (rowPart c)
    | none => if lotB locked rs.length = true then (if inR spare 0 2 = true then none else some (part sSpare)) else some (part sLock))
    else some (part sRows)
  | _ => some (part sRows)
end K07
/-! K4: making a wish. -/
namespace K07
open RI
variable {fu n : Nat} {S : Store}
structure Wg (x : D) : Prop where
  p : pl x = true
  t : ∀ xs, x = .tup xs → ∀ y ∈ xs, Rg y
theorem wB_mono {a b : Nat} (h : a ≤ b) : ∀ w, wBelow a w = true → wBelow b w = true := by
  intro w hw
  cases w <;> simp_all [wBelow]
  omega
theorem belows_mono {a b : Nat} (h : a ≤ b) {S : Store} (hS : belows a S = true) : belows b S = true := by
  simp only [belows, List.all_eq_true] at *
  intro c hc
  have h1 := hS c hc
  cases c <;> simp_all [cellBelow]
  · intro w hw; exact wB_mono h _ (h1 w hw)
  · intro x y hxy; exact wB_mono h _ (h1 x y hxy)
theorem belows_ins {c : Nat} {fs : List (Nat × W)} (hS : belows S.length S = true) (hf : ∀ p ∈ fs, wBelow (S.length + 1) p.2 = true) : belows (S ++ [Cell.ins c fs]).length (S ++ [.ins c fs]) = true := by
  have := belows_mono (Nat.le_succ S.length) hS
  simp only [belows, List.all_append, List.length_append, List.length_cons, List.length_nil, Bool.and_eq_true]
  refine ⟨this, ?_⟩
  simp [cellBelow]
  intro x y h
  exact hf _ h
theorem x_bad {C : Ctx} (hC : C.P = Ir.P) {e : IE} {η : Env} {x : D} {S1 : Store} (h : (evalP C e).1 η S = .ok (.d x) S1) : execS C (.raise 1 (.cons e .nil)) η S = .exc 1 [(1, x)] S1 := by
  rw [x_raise]
  have hc : C.P.cls[1]? = some { name := "BadWish", init := none, meths := [], frozen := false, sups := [1, 0], exc := some [1], xin := some 1 } := by rw [hC]; rfl
  rw [hc]
  simp [h, fieldsOf]
theorem f9loop {C : Ctx} {k : Nat} (hC : C.P = Ir.P) {xs rs : List D} {w0 w2 w3 : Option W} (hk : rs.length = k) (e8 : ∀ y, Rg y → C.call 9 [.d y, .d (.int k)] S = .ok (.d (.bl (rowB k y))) S) : ∀ (xs : List D) (i : Nat) (a b : Option W), (∀ y ∈ xs, Rg y) →
    ∃ a' b', forFix (setT C (.tup (.cons (.nm 4) (.cons (.nm 5) .nil)))) (execSs C Ir.f20b0) (xs.mapIdx fun j x => .tup [.int ((j + i : Nat) : Int), x]) [w0, some (.d (.tup rs)), w2, w3, a, b] S = match badAt k xs i with
      | some c => .exc 1 [(1, rowPart c)] S
      | none => .ok (.nx [w0, some (.d (.tup rs)), w2, w3, a', b']) S
  | [], i, a, b, _ => ⟨a, b, by simp [forFix, badAt]⟩
  | x :: xs, i, a, b, h => by
    have hx := h x (by simp)
    have ih := f9loop hC (w0 := w0) (w2 := w2) (w3 := w3) (xs := xs) hk e8 xs (i + 1) (some (.d (.int i))) (some (.d x)) (fun y hy => h y (by simp [hy]))
    have e := e8 x hx
    have hm : (x :: xs).mapIdx (fun j x => D.tup [.int ((j + i : Nat) : Int), x]) = D.tup [.int (i : Int), x] :: xs.mapIdx fun j x => .tup [.int ((j + (i + 1) : Nat) : Int), x] := by
      rw [List.mapIdx_cons]
      simp only [Nat.zero_add]
      congr 2
      funext j y
      congr 4
      omega
    rw [hm, forFix]
    obtain ⟨a', b', ih⟩ := ih
    refine ⟨a', b', ?_⟩
    have hn : x = .non ∨ x ≠ .non := by cases x <;> simp
    rcases hn with rfl | hn
    · rw [badAt]
      simp [getV, okRow, noExc]
      exact ih
    · have ho : okRow k x = rowB k x := by cases x <;> simp_all [okRow]
      rw [badAt, ho]
      have hisn : (evalP C (.isn true (.var 5))).1 [w0, some (.d (.tup rs)), w2, w3, some (.d (.int i)), some (.d x)] S = .ok (.d (.bl true)) S := by cases x <;> simp_all [getV]
      have hra : execS C (.raise 1 (.cons (.tup (.cons (.str [114, 111, 119]) (.cons (.var 4) .nil))) .nil)) [w0, some (.d (.tup rs)), w2, w3, some (.d (.int i)), some (.d x)] S = .exc 1 [(1, rowPart i)] S := x_bad hC (by simp [getV, rowPart])
      cases hr : rowB k x with
      | true =>
        rw [hr] at e
        simp [getV, noExc, hk, e, -ev_isn, hisn]
        simpa [noExc] using ih
      | false =>
        rw [hr] at e
        simp [getV, noExc, hk, e, -ev_isn, hisn, hra]
end K07
/-! K5: making a wish. -/
namespace K07
open RI
variable {fu n : Nat} {S : Store}
theorem fin_exc {n : Nat} {c : Nat} {fs : List (Nat × D)} (hS : belows n (S.take n) = true) (hl : n ≤ S.length) : finish false n (.exc c fs S) = .exc c fs (S.take n) := by simp [finish, hS, hl]
theorem dueD_rows {rows locked spare : D} (h : isSz rows 1 6 = false) : dueD rows locked spare = some (part sRows) := by
  cases rows <;> simp_all [dueD, isSz]
  rename_i xs
  intro h1 h2
  exact absurd (h (by omega)) (by omega)
theorem F9 {rows locked spare : D} (hS : belows S.length S = true) (hfu : 1000000 < fu) (hr : Wg rows) (hl : Lg locked) (hp : pl spare = true) :
    callF Ir.P fu (n + 4) 20 [.loc S.length, .d rows, .d locked, .d spare] (S ++ [.ins 5 []]) = match dueD rows locked spare with
      | some p => .exc 1 [(1, p)] (S ++ [.ins 5 []])
      | none => .ok (.d .non) (S ++ [.ins 5 [(5, .d rows), (6, .d locked), (7, .d spare)]]) := by
  have hT := belows_ins (c := 5) (fs := []) hS (by simp)
  rw [runT (fd := Ir.f20) rfl rfl]
  have e2 : ∀ y a b, pl y = true → callF Ir.P fu (n + 3) 3 [.d y, .d (.int a), .d (.int b)] (S ++ [.ins 5 []]) = .ok (.d (.bl (inR y a b))) (S ++ [.ins 5 []]) := fun y a b hy => F2 hT hy
  have e4 : ∀ y a b, pl y = true → callF Ir.P fu (n + 3) 5 [.d y, .d (.int a), .d (.int b)] (S ++ [.ins 5 []]) = .ok (.d (.bl (isSz y a b))) (S ++ [.ins 5 []]) := fun y a b hy => F4 hT hy
  have e5 : ∀ y (k : Nat), Lg y → callF Ir.P fu (n + 3) 6 [.d y, .d (.int k)] (S ++ [.ins 5 []]) = .ok (.d (.bl (lotB y k))) (S ++ [.ins 5 []]) := fun y k hy => F5 hT hy
  have e8 : ∀ y (k : Nat), Rg y → callF Ir.P fu (n + 3) 9 [.d y, .d (.int k)] (S ++ [.ins 5 []]) = .ok (.d (.bl (rowB k y))) (S ++ [.ins 5 []]) := fun y k hy => F8 hT hfu hy
  generalize hT' : S ++ [Cell.ins 5 []] = T at *
  generalize callF Ir.P fu (n + 3) = cf at *
  have ex : ∀ {c fs}, finish false T.length (.exc c fs T) = .exc c fs T := fun {c fs} => by
    have := fin_exc (S := T) (n := T.length) (c := c) (fs := fs) (by rw [List.take_length]; exact hT) (Nat.le_refl _)
    rw [List.take_length] at this
    exact this
  have c0 : Ir.P.consts[2]? = some (.int 6) := rfl
  have c1 : Ir.P.consts[3]? = some (.int 2) := rfl
  have er := e4 rows 1 6 hr.p
  cases hz : isSz rows 1 6 with
  | false =>
    rw [hz] at er
    rw [dueD_rows hz]
    have hra : execS ⟨cf, Ir.P, fu⟩ (.raise 1 (.cons (.tup (.cons (.str [114, 111, 119, 115]) .nil)) .nil)) [some (.loc S.length), some (.d rows), some (.d locked), some (.d spare), none, none] T = .exc 1 [(1, part sRows)] T := x_bad rfl (by simp [part, sRows])
    simp [Ir.f20, startE, getV, c0, er, hra, ex]
  | true =>
    rw [hz] at er
    cases rows <;> (first | (simp [isSz] at hz; done) | skip)
    rename_i rs
    have hsz : 1 ≤ rs.length ∧ rs.length ≤ 6 := by simp [isSz] at hz; omega
    obtain ⟨a', b', hlp⟩ := f9loop (C := ⟨cf, Ir.P, fu⟩) (k := rs.length) (w0 := some (.loc S.length)) (w2 := some (.d locked)) (w3 := some (.d spare)) rfl (xs := []) (rs := rs) rfl (fun y hy => e8 y _ hy) rs 0 none none (fun y hy => hr.t rs rfl y hy)
    simp only [Nat.add_zero] at hlp
    have hd : dueD (.tup rs) locked spare = match badAt rs.length rs 0 with
      | some c => some (rowPart c)
      | none => if lotB locked rs.length = true then (if inR spare 0 2 = true then none else some (part sSpare)) else some (part sLock) := by
      simp only [dueD]
      rw [if_pos hsz]
      all_goals (generalize badAt rs.length rs 0 = o; cases o <;> rfl)
    rw [hd]
    cases hb : badAt rs.length rs 0 with
    | some c =>
      rw [hb] at hlp
      simp only at hlp ⊢
      simp [Ir.f20, startE, getV, c0, er, forSrc, hlp, ex]
    | none =>
      rw [hb] at hlp
      simp only at hlp ⊢
      have el := e5 locked rs.length hl
      have es := e2 spare 0 2 hp
      cases hlo : lotB locked rs.length with
      | false =>
        rw [hlo] at el
        have hra : execS ⟨cf, Ir.P, fu⟩ (.raise 1 (.cons (.tup (.cons (.str [108, 111, 99, 107, 101, 100]) .nil)) .nil)) [some (.loc S.length), some (.d (.tup rs)), some (.d locked), some (.d spare), a', b'] T = .exc 1 [(1, part sLock)] T := x_bad rfl (by simp [part, sLock])
        simp [Ir.f20, startE, getV, c0, er, forSrc, hlp, el, hra, ex]
      | true =>
        rw [hlo] at el
        cases hsp : inR spare 0 2 with
        | false =>
          rw [hsp] at es
          have hra : execS ⟨cf, Ir.P, fu⟩ (.raise 1 (.cons (.tup (.cons (.str [115, 112, 97, 114, 101]) .nil)) .nil)) [some (.loc S.length), some (.d (.tup rs)), some (.d locked), some (.d spare), a', b'] T = .exc 1 [(1, part sSpare)] T := x_bad rfl (by simp [part, sSpare])
          simp [Ir.f20, startE, getV, c0, c1, er, forSrc, hlp, el, es, hra, ex]
        | true =>
          rw [hsp] at es
          have oc : ordC Ir.P 5 = true := rfl
          have hB : belows T.length (S ++ [Cell.ins 5 [(5, .d (.tup rs)), (6, .d locked), (7, .d spare)]]) = true := by
            have := belows_ins (c := 5) (fs := [(5, .d (.tup rs)), (6, .d locked), (7, .d spare)]) hS (by simp [wBelow])
            rw [← hT']
            simpa using this
          have hL : T.length = S.length + 1 := by rw [← hT']; simp
          simp [Ir.f20, startE, getV, c0, c1, er, forSrc, hlp, el, es]
          subst hT'
          simp [getV, setFld, oc, putN, finish, close, freeze] at hB ⊢
          rw [List.take_of_length_le (by simp)]
          simp [hB]
def wish (rows locked spare : D) : D := .obj 5 [(5, rows), (6, locked), (7, spare)]
theorem mk_wish {C : Ctx} {rows locked spare : D} (hC : C.P = Ir.P) (hS : belows S.length S = true) (e9 : C.call 20 [.loc S.length, .d rows, .d locked, .d spare] (S ++ [.ins 5 []]) = match dueD rows locked spare with
      | some p => .exc 1 [(1, p)] (S ++ [.ins 5 []])
      | none => .ok (.d .non) (S ++ [.ins 5 [(5, .d rows), (6, .d locked), (7, .d spare)]])) :
    mkW C 5 [.d rows, .d locked, .d spare] S = match dueD rows locked spare with
      | some p => .exc 1 [(1, p)] (S ++ [.ins 5 []])
      | none => .ok (.d (wish rows locked spare)) S := by
  have hc : C.P.cls[5]? = some { name := "Wish", init := some 20, meths := [(0, 21)], frozen := true, sups := [5], exc := none, xin := none } := by rw [hC]; rfl
  unfold mkW
  rw [hc]
  simp only
  rw [e9]
  cases dueD rows locked spare with
  | some p => rfl
  | none =>
    simp only [Res.bind_ok, bnd_ok, if_true]
    have h1 : (S ++ [Cell.ins 5 [(5, W.d rows), (6, W.d locked), (7, W.d spare)]])[S.length]? = some (Cell.ins 5 [(5, W.d rows), (6, W.d locked), (7, W.d spare)]) := by simp
    rw [h1]
    simp [wsD, hS, wish]
def foundD (o : Option D) : D := match o with
  | some p => p
  | none => .non
end K07
/-! K7: == of data, and what rises. -/
namespace K07
open RI
theorem pyEq_self {x : D} {p : PySem.PyData} (e : toPD x = some p) (hs : PySem.SeqAt.shaped p = true) : pyEq x x = some true := by
  unfold pyEq
  rw [e]
  simp only
  rw [hs]
  simp [PySem.SeqAt.eqv_refl p (PySem.SeqAt.canLay_of_shaped hs)]
/-- it can be compared -/
structure Sh (d : Nat) (x : D) (p : PySem.PyData) : Prop where
  e : toPD x = some p
  l : p.canLay0 = true
  d : p.depth ≤ d
theorem Sh.up {d d' : Nat} {x : D} {p : PySem.PyData} (h : Sh d x p) (k : d ≤ d') : Sh d' x p := ⟨h.e, h.l, Nat.le_trans h.d k⟩
theorem Sh.shaped {d : Nat} {x : D} {p : PySem.PyData} (h : Sh d x p) (k : d ≤ 60) : PySem.SeqAt.shaped p = true := by
  have := h.d
  unfold PySem.SeqAt.shaped
  simp [h.l]
  omega
theorem Sh.eq {d d' : Nat} {x y : D} {p q : PySem.PyData} (h : Sh d x p) (h' : Sh d' y q) (k : d ≤ 60) (k' : d' ≤ 60) : pyEq x y = some (PySem.PyData.eqv p q) := by
  unfold pyEq
  rw [h.e, h'.e]
  simp only
  rw [h.shaped k, h'.shaped k']
  rfl
theorem Sh.self {d : Nat} {x : D} {p : PySem.PyData} (h : Sh d x p) (k : d ≤ 60) : pyEq x x = some true := pyEq_self h.e (h.shaped k)
theorem Sh.int (i : Int) : Sh 0 (.int i) (.int i) := ⟨rfl, rfl, by simp [PySem.PyData.depth]⟩
theorem Sh.non : Sh 0 .non .none := ⟨rfl, rfl, by simp [PySem.PyData.depth]⟩
theorem Sh.list {d : Nat} : ∀ {xs : List D}, (∀ x ∈ xs, ∃ p, Sh d x p) → ∃ ps, toPDs xs = some ps ∧ PySem.PyData.canLayAll0 ps = true ∧ PySem.PyData.depthAll ps ≤ d
  | [], _ => ⟨[], rfl, rfl, by simp [PySem.PyData.depthAll]⟩
  | x :: xs, h => by
    obtain ⟨p, hp⟩ := h x (by simp)
    obtain ⟨ps, h1, h2, h3⟩ := Sh.list (xs := xs) fun y hy => h y (by simp [hy])
    refine ⟨p :: ps, by simp [toPDs, hp.e, h1], by simp [PySem.PyData.canLayAll0, hp.l, h2], ?_⟩
    have := hp.d
    simp [PySem.PyData.depthAll]
    omega
theorem Sh.tup {d : Nat} {xs : List D} (h : ∀ x ∈ xs, ∃ p, Sh d x p) : ∃ p, Sh (d + 1) (.tup xs) p := by
  obtain ⟨ps, h1, h2, h3⟩ := Sh.list h
  refine ⟨.tuple ps, by simp [toPD, h1], by simp [PySem.PyData.canLay0, h2], ?_⟩
  simp [PySem.PyData.depth]
  omega
theorem Sh.tup3 {d : Nat} {x y z : D} {p q r : PySem.PyData} (h : Sh d x p) (h2 : Sh d y q) (h3 : Sh d z r) : Sh (d + 1) (.tup [x, y, z]) (.tuple [p, q, r]) := by
  refine ⟨by simp [toPD, toPDs, h.e, h2.e, h3.e], by simp [PySem.PyData.canLay0, PySem.PyData.canLayAll0, h.l, h2.l, h3.l], ?_⟩
  have := h.d
  have := h2.d
  have := h3.d
  simp [PySem.PyData.depth, PySem.PyData.depthAll]
  omega
theorem numB_tup {x : D} (h : numB x = true) : ∃ a b : Int, x = .tup [.int a, .int b] ∧ 0 < b ∧ Int.gcd a b = 1 := by
  unfold numB at h
  split at h
  · simp at h; exact ⟨_, _, rfl, h⟩
  · simp at h
theorem okRow_Sh {k : Nat} {x : D} (h : okRow k x = true) : ∃ p, Sh 3 x p := by
  have hr : x = .non ∨ rowB k x = true := by cases x <;> simp_all [okRow]
  rcases hr with rfl | hr
  · exact ⟨_, Sh.non.up (by omega)⟩
  · cases x <;> (first | (simp [rowB] at hr; done) | skip)
    rename_i xs
    simp [rowB] at hr
    refine Sh.tup (d := 2) fun y hy => ?_
    obtain ⟨a, b, rfl, _⟩ := numB_tup (hr.2 y hy)
    exact Sh.tup (d := 1) fun z hz => by
      simp at hz
      rcases hz with rfl | rfl
      · exact ⟨_, (Sh.int _).up (by omega)⟩
      · exact ⟨_, (Sh.int _).up (by omega)⟩
theorem badAt_none {k : Nat} : ∀ {xs : List D} {i : Nat}, badAt k xs i = none → ∀ x ∈ xs, okRow k x = true
  | [], _, _, x, hx => by simp at hx
  | y :: xs, i, h, x, hx => by
    rw [badAt] at h
    by_cases hy : okRow k y = true
    · rw [if_pos hy] at h
      rcases List.mem_cons.mp hx with rfl | hx
      · exact hy
      · exact badAt_none h x hx
    · rw [if_neg hy] at h; exact absurd h (by simp)
theorem badAt_ok {k : Nat} : ∀ {xs : List D} {i : Nat}, (∀ x ∈ xs, okRow k x = true) → badAt k xs i = none
  | [], _, _ => rfl
  | y :: xs, i, h => by
    rw [badAt, if_pos (h y (by simp))]
    exact badAt_ok fun x hx => h x (by simp [hx])
/-- a good wish -/
structure Good (rows locked spare : D) : Prop where
  r : ∃ rs, rows = .tup rs ∧ 1 ≤ rs.length ∧ rs.length ≤ 6 ∧ (∀ x ∈ rs, okRow rs.length x = true) ∧ lotB locked rs.length = true
  s : inR spare 0 2 = true
theorem due_good {rows locked spare : D} : dueD rows locked spare = none ↔ Good rows locked spare := by
  constructor
  · intro h
    cases rows <;> (first | (simp [dueD] at h; done) | skip)
    rename_i rs
    by_cases hl : 1 ≤ rs.length ∧ rs.length ≤ 6
    · simp only [dueD] at h
      rw [if_pos hl] at h
      cases hb : badAt rs.length rs 0 with
      | some c => rw [hb] at h; simp at h
      | none =>
        rw [hb] at h
        simp only at h
        by_cases h1 : lotB locked rs.length = true
        · rw [if_pos h1] at h
          by_cases h2 : inR spare 0 2 = true
          · exact ⟨⟨rs, rfl, hl.1, hl.2, badAt_none hb, h1⟩, h2⟩
          · rw [if_neg h2] at h; simp at h
        · rw [if_neg h1] at h; simp at h
    · simp only [dueD] at h
      rw [if_neg hl] at h
      simp at h
  · rintro ⟨⟨rs, rfl, h1, h2, h3, h4⟩, h5⟩
    simp only [dueD]
    rw [if_pos ⟨h1, h2⟩, badAt_ok h3]
    simp [h4, h5]
theorem Good.sh {rows locked spare : D} (h : Good rows locked spare) : (∃ p, Sh 4 rows p) ∧ (∃ q, Sh 4 locked q) ∧ ∃ r, Sh 4 spare r := by
  obtain ⟨⟨rs, rfl, _, _, h3, h4⟩, h5⟩ := h
  refine ⟨Sh.tup fun x hx => okRow_Sh (h3 x hx), ?_, ?_⟩
  · cases locked <;> (first | (simp [lotB] at h4; done) | skip)
    simp [lotB] at h4
    refine Sh.tup (d := 3) fun x hx => ?_
    have := h4.1 x hx
    cases x <;> (first | (simp [inR] at this; done) | skip)
    exact ⟨_, (Sh.int _).up (by omega)⟩
  · cases spare <;> (first | (simp [inR] at h5; done) | skip)
    exact ⟨_, (Sh.int _).up (by omega)⟩
theorem due_self {rows locked spare : D} (h : dueD rows locked spare = none) : pyEq (.tup [rows, locked, spare]) (.tup [rows, locked, spare]) = some true := by
  obtain ⟨⟨p, h1⟩, ⟨q, h2⟩, ⟨r, h3⟩⟩ := (due_good.mp h).sh
  exact (Sh.tup3 h1 h2 h3).self (by omega)
/-! ### what rises -/
theorem eqv_ints : ∀ as bs : List Int, PySem.PyData.eqvAll (as.map .int) (bs.map .int) = decide (as = bs)
  | [], [] => by simp [PySem.PyData.eqvAll]
  | [], _ :: _ => by simp [PySem.PyData.eqvAll]
  | _ :: _, [] => by simp [PySem.PyData.eqvAll]
  | a :: as, b :: bs => by
    simp only [List.map_cons, PySem.PyData.eqvAll, eqv_ints as bs]
    by_cases e : a = b
    · subst e; simp [PySem.PyData.eqv]
    · simp [PySem.PyData.eqv, e]
theorem toPDs_ints : ∀ xs : List Int, toPDs (xs.map .int) = some (xs.map .int)
  | [] => rfl
  | x :: xs => by simp [toPDs, toPD, toPDs_ints xs]
theorem pyEq_lints (as bs : List Int) : pyEq (.lst (as.map .int)) (.lst (bs.map .int)) = some (decide (as = bs)) := by
  have sh : ∀ xs : List Int, Sh 1 (.lst (xs.map .int)) (.list (xs.map .int)) := fun xs => by
    obtain ⟨ps, h1, h2, h3⟩ := Sh.list (d := 0) (xs := xs.map .int) fun y hy => by
      obtain ⟨i, _, rfl⟩ := List.mem_map.mp hy
      exact ⟨_, Sh.int i⟩
    rw [toPDs_ints] at h1
    simp at h1
    subst h1
    refine ⟨by simp [toPD, toPDs_ints], by simp [PySem.PyData.canLay0, h2], ?_⟩
    simp [PySem.PyData.depth]
    omega
  rw [(sh as).eq (sh bs) (by omega) (by omega)]
  simp [PySem.PyData.eqv, eqv_ints]
theorem insU_head (i : Int) : ∀ ns : List Int, (insU i ns).head? = some (match ns with
    | [] => i
    | j :: _ => if i < j then i else if i = j then j else j)
  | [] => rfl
  | j :: r => by
    unfold insU
    by_cases h : i < j
    · simp [h]
    · by_cases h2 : i = j <;> simp [h, h2]
def incZ : List Int → Bool
  | i :: j :: r => decide (i < j) && incZ (j :: r)
  | _ => true
theorem inc_incZ : ∀ ns : List Int, inc (ns.map .int) = incZ ns
  | [] => by simp [inc, incZ]
  | [a] => by simp [inc, incZ]
  | a :: b :: r => by
    have := inc_incZ (b :: r)
    simp [inc, incZ] at this ⊢
    rw [this]
theorem incZ_ins (i : Int) : ∀ ns : List Int, incZ ns = true → incZ (insU i ns) = true
  | [], _ => rfl
  | [j], _ => by
    unfold insU
    by_cases h : i < j
    · simp [h, incZ]
    · by_cases h2 : i = j
      · simp [h2, incZ]
      · simp [h, h2, insU, incZ]; omega
  | j :: k :: r, hs => by
    have h1 : j < k := by simp [incZ] at hs; exact hs.1
    have h3 : incZ (k :: r) = true := by simp [incZ] at hs ⊢; exact hs.2
    have ih := incZ_ins i (k :: r) h3
    unfold insU
    by_cases h : i < j
    · simp [h, incZ]; simp [incZ] at hs; exact hs
    · by_cases h2 : i = j
      · simp [h2]; exact hs
      · simp only [h, h2, if_false]
        unfold insU at ih ⊢
        by_cases g : i < k
        · simp only [g, if_true] at ih ⊢
          simp [incZ] at ih ⊢
          exact ⟨by omega, ih⟩
        · by_cases g2 : i = k
          · simp only [g2, if_true] at ih ⊢
            simp at ih ⊢
            simp [incZ, h1]; simpa [incZ] using h3
          · simp only [g, g2, if_false] at ih ⊢
            rw [incZ]
            simp [h1, ih]
theorem sortU_inc : ∀ ns : List Int, incZ (sortU ns) = true
  | [] => rfl
  | n :: r => incZ_ins n _ (sortU_inc r)
theorem sortU_id : ∀ ns : List Int, incZ ns = true → sortU ns = ns
  | [], _ => rfl
  | [a], _ => rfl
  | a :: b :: r, h => by
    have h1 : a < b := by simp [incZ] at h; exact h.1
    have h3 : incZ (b :: r) = true := by simp [incZ] at h ⊢; exact h.2
    show insU a (sortU (b :: r)) = _
    rw [sortU_id (b :: r) h3]
    simp [insU, h1]
theorem sortU_same (ns : List Int) : decide (ns = sortU ns) = incZ ns := by
  by_cases h : incZ ns = true
  · rw [sortU_id ns h, h]; simp
  · have : ¬ ns = sortU ns := fun e => h (e ▸ sortU_inc ns)
    simp [this]
    simpa using h
end K07
/-! K10: draws; rows drawn. -/
namespace K07
open RI QP
section
variable {p : Po} {T L : Store} {c c' d : Cell} {Q : W → Store → Prop} {x : D}
@[simp] theorem st_len : p.st.length = 2 := rfl
@[simp high] theorem at_tl {R : Store} : (p.st ++ (T ++ c :: R))[2 + T.length]? = some c := by
  rw [List.getElem?_append_right (by simp)]
  simp
@[simp high] theorem set_tl {R : Store} : (p.st ++ (T ++ c :: R)).set (2 + T.length) c' = p.st ++ (T ++ c' :: R) := by
  rw [List.set_append_right _ _ (by simp)]
  simp
@[simp high] theorem at_tl2 {R : Store} : (p.st ++ (T ++ c :: d :: R))[2 + (T.length + 1)]? = some d := by
  rw [List.getElem?_append_right (by simp)]
  rw [List.getElem?_append_right (by simp)]
  rw [show 2 + (T.length + 1) - p.st.length - T.length = 1 by rw [st_len]; omega]
  rfl
@[simp high] theorem set_tl2 {R : Store} : (p.st ++ (T ++ c :: d :: R)).set (2 + (T.length + 1)) c' = p.st ++ (T ++ c :: c' :: R) := by
  rw [List.set_append_right _ _ (by simp)]
  rw [List.set_append_right _ _ (by simp)]
  rw [show 2 + (T.length + 1) - p.st.length - T.length = 1 by rw [st_len]; omega]
  rfl
theorem take_tl : (p.st ++ (T ++ L)).take (2 + T.length) = p.st ++ T := by
  rw [← List.append_assoc, List.take_append_of_le_length (by simp)]
  rw [List.take_of_length_le (by simp)]
theorem sok_tl (hT : ∀ k, belows k T = true) : Sok (2 + T.length) (p.st ++ (T ++ L)) := by
  refine ⟨?_, by simp⟩
  rw [take_tl]
  have := (sok_pool (p := p) hT).b
  rw [List.take_of_length_le (by simp)] at this
  exact this
theorem fin_q (hT : ∀ k, belows k T = true) (hQ : Q (.d x) (p.st ++ T)) : Sok (2 + T.length) (p.st ++ (T ++ L)) ∧ Q (.d x) ((p.st ++ (T ++ L)).take (2 + T.length)) := ⟨sok_tl hT, by rw [take_tl]; exact hQ⟩
theorem fin_q0 (hT : ∀ k, belows k T = true) (hQ : Q (.d x) (p.st ++ T)) : Sok (2 + T.length) (p.st ++ T) ∧ Q (.d x) ((p.st ++ T).take (2 + T.length)) := by
  have := fin_q (L := []) (p := p) hT hQ
  simpa using this
theorem bl_app (hT : ∀ k, belows k T = true) {xs : List D} : ∀ k, belows k (T ++ [.lst xs]) = true := fun k => by
  have := hT k
  simp only [belows, List.all_append, Bool.and_eq_true] at *
  exact ⟨this, by simp [cellBelow]⟩
theorem bl_app2 (hT : ∀ k, belows k T = true) {xs ys : List D} : ∀ k, belows k (T ++ [.lst xs, .lst ys]) = true := fun k => by
  have := hT k
  simp only [belows, List.all_append, Bool.and_eq_true] at *
  exact ⟨this, by simp [cellBelow]⟩
theorem bl_st (hT : ∀ k, belows k T = true) : belows (p.st ++ T).length (p.st ++ T) = true := by
  have := (sok_pool (p := p) hT).b
  rw [List.take_of_length_le (by simp)] at this
  simpa using this
end
/-- what a draw tells -/
def DrawQ (m : Int) (N : Nat) (T : Store) : W → Store → Prop := fun w S => ∃ r p', w = .d (.int r) ∧ S = Po.st p' ++ T ∧ 0 ≤ r ∧ r < m ∧ p'.Ok (N + 1)
/-- draws can be made -/
def DrawT (cf : Nat → List W → Store → Res W) : Prop := ∀ {N : Nat} {p : Po} {T : Store} {m : Int}, p.Ok N → N < 1000000 → 0 < m → m < 1000000 → (∀ k, belows k T = true) → Tot (cf 37 [.loc 1, .d (.int m)] (p.st ++ T)) (DrawQ m N T)
theorem F12 {fu n : Nat} : DrawT (callF Ir.P fu (n + 1)) := fun {N p T m} h hN h0 h1 hT => draw_ok (i := 37) rfl h (by omega) h0 (by omega) hT fun r p' h0 h1 h' => ⟨r, p', rfl, rfl, h0, h1, h'⟩
/-- a comprehension by an invariant -/
theorem Tot_lcI {set : W → Env → Store → Res Env} {tst : Env → Store → Res Bool} {elt : Env → Store → Res W} {η : Env} (I : List D → List D → Store → Prop)
    (hs : ∀ x xs acc S, I (x :: xs) acc S → Tot (lcTurn set tst elt η x acc S) fun acc' S' => I xs acc' S') :
    ∀ (ys acc : List D) (S : Store), I ys acc S → Tot (lcFix set tst elt η ys acc S) fun zs S' => I [] zs S'
  | [], acc, S, h => by simpa [lcFix] using h
  | x :: ys, acc, S, h => by
    rw [lcFix]
    try simp only [bind_bnd]
    exact (hs x ys acc S h).seq fun acc' S' h' => Tot_lcI I hs ys acc' S' h'
/-- a number in lowest terms, over 42, small -/
structure GN (x : D) : Prop where
  n : numB x = true
  g : Ng x
  d : ∃ a b : Int, x = .tup [.int a, .int b] ∧ b ∣ 42 ∧ a.natAbs ≤ 101
/-- a row -/
def RowG (k : Nat) (x : D) : Prop := ∃ xs, x = .tup xs ∧ xs.length = k ∧ ∀ y ∈ xs, GN y
theorem log_small {a : Int} (h : a.natAbs ≤ 1000) : a.natAbs.log2 < 3000 := by
  by_cases e : a.natAbs = 0
  · rw [e]; decide
  · have : a.natAbs.log2 < 10 := (Nat.log2_lt e).mpr (by omega)
    omega
theorem GN.mk' {a b : Int} (h : 0 < b) (h2 : Int.gcd a b = 1) (h3 : a.natAbs ≤ 101) (h4 : b ∣ 42) : GN (.tup [.int a, .int b]) := by
  refine ⟨by simp [numB, h, h2], ⟨rfl, ?_⟩, a, b, rfl, h4, h3⟩
  intro xs e y hy
  cases e
  have hb := Int.le_of_dvd (by decide) h4
  simp at hy
  rcases hy with rfl | rfl
  · exact ⟨rfl, fun i e => by cases e; exact log_small (by omega)⟩
  · exact ⟨rfl, fun i e => by cases e; exact log_small (by omega)⟩
theorem RowG.ok {k : Nat} {x : D} (h : RowG k x) : rowB k x = true := by
  obtain ⟨xs, rfl, h1, h2⟩ := h
  simp [rowB, h1]
  exact fun y hy => (h2 y hy).n
theorem RowG.rg {k : Nat} {x : D} (h : RowG k x) (hk : k ≤ 100) : Rg x := by
  obtain ⟨xs, rfl, h1, h2⟩ := h
  refine ⟨rfl, fun xs' e => ?_⟩
  cases e
  exact ⟨by omega, fun y hy => (h2 y hy).g⟩
section
variable {fu n N : Nat} {S : Store} {p : Po} {T : Store}
theorem F17 {m : Nat} {a : Int} (hS : belows S.length S = true) (hm : m ≤ 10) : ∃ x, RowG m x ∧ callF Ir.P fu (n + 1) 44 [.d (.int m), .d (.int a)] S = .ok (.d x) S := by
  refine ⟨.tup (((List.range m).map fun i => D.int (i : Nat)).map fun y => match y with
    | .int i => .tup [.int (if i = a then 1 else 0), .int 1]
    | y => y), ⟨_, rfl, by simp, ?_⟩, ?_⟩
  · intro y hy
    simp at hy
    obtain ⟨i, _, rfl⟩ := hy
    split
    · exact GN.mk' (by decide) (by decide) (by decide) (by decide)
    · exact GN.mk' (by decide) (by decide) (by decide) (by decide)
  · refine runD (fd := Ir.f44) rfl rfl rfl hS ?_
    generalize callF Ir.P fu n = cf
    have key := lcNm (C := ⟨cf, Ir.P, fu⟩) (i := 2) (e := (.tup (.cons (.bi .int (.cons (.cmp .eq (.var 2) (.var 1)) .nil)) (.cons (.int 1) .nil)))) (η := [some (.d (.int m)), some (.d (.int a)), none]) (S := S) (fun y => match y with
      | .int i => .tup [.int (if i = a then 1 else 0), .int 1]
      | y => y) (xs := (List.range m).map fun i => D.int (i : Nat)) (by simp; exact Nat.le_trans hm (by decide)) (by simp) (fun y hy => by
        obtain ⟨i, _, rfl⟩ := List.mem_map.mp hy
        simp [getV])
    have rl : (-lineR ≤ (m : Int)) ∧ (m : Int) < lineR := by unfold lineR; omega
    simp [-List.map_map, Ir.f44, startE, getV, rl, wipeE, key]
theorem F18 (h : p.Ok N) (hN : N < 1000000) (hT : ∀ k, belows k T = true) {Q : W → Store → Prop} (hQ : ∀ x (p' : Po), GN x → p'.Ok (N + 1) → Q (.d x) (p'.st ++ T)) : Tot (callF Ir.P fu (n + 2) 48 [.loc 1] (p.st ++ T)) Q := by
  have hd : DrawT (callF Ir.P fu (n + 1)) := F12
  rw [runT (fd := Ir.f48) rfl rfl]
  generalize callF Ir.P fu (n + 1) = cf at *
  refine Tot.fin ?_
  simp [Ir.f48, startE, getV]
  refine Tot.seq (hd h hN (by decide) (by decide) hT) ?_
  rintro _ _ ⟨r, p', rfl, rfl, h0, h1, h'⟩
  simp
  obtain ⟨x, hx, e⟩ := ix_in (xs := [D.tup [D.int 0, D.int 1], D.tup [D.int 1, D.int 1], D.tup [D.int (-1), D.int 1], D.tup [D.int 2, D.int 1], D.tup [D.int 1, D.int 2], D.tup [D.int (-2), D.int 3], D.tup [D.int 3, D.int 1], D.tup [D.int 0, D.int 1], D.tup [D.int 1, D.int 1], D.tup [D.int 101, D.int 7]]) h0 (by simpa using h1)
  have hg : GN x := by
    simp at hx
    rcases hx with rfl | rfl | rfl | rfl | rfl | rfl | rfl | rfl | rfl | rfl <;> exact GN.mk' (by decide) (by decide) (by decide) (by decide)
  simp [e]
  exact fin_q0 hT (hQ x p' hg h')
end
end K07
/-! K11: rows drawn. -/
namespace K07
open RI QP
def GenT (G : D → Prop) (k N : Nat) (T : Store) : W → Store → Prop := fun w S => ∃ x p', w = .d x ∧ S = Po.st p' ++ T ∧ G x ∧ p'.Ok (N + k)
def NumT (cf : Nat → List W → Store → Res W) : Prop := ∀ {N : Nat} {p : Po} {T : Store}, p.Ok N → N < 1000000 → (∀ k, belows k T = true) → Tot (cf 48 [.loc 1] (p.st ++ T)) (GenT GN 1 N T)
theorem F18' {fu n : Nat} : NumT (callF Ir.P fu (n + 2)) := fun {N p T} h hN hT => F18 h hN hT fun x p' g h' => ⟨x, p', rfl, rfl, g, h'⟩
def UnitT (cf : Nat → List W → Store → Res W) : Prop := ∀ {S : Store} {m : Nat} {a : Int}, belows S.length S = true → m ≤ 10 → ∃ x, RowG m x ∧ cf 44 [.d (.int m), .d (.int a)] S = .ok (.d x) S
theorem F17' {fu n : Nat} : UnitT (callF Ir.P fu (n + 1)) := fun {S m a} hS hm => F17 hS hm
section
variable {fu n N : Nat} {S : Store} {p : Po} {T : Store}
theorem F14 (hS : belows S.length S = true) : ∃ xs, callF Ir.P fu (n + 1) 39 [] S = .ok (.d (.lst xs)) S := by
  generalize hcf : callF Ir.P fu n = cf
  suffices h : Tot (execSs ⟨cf, Ir.P, fu⟩ Ir.f39.body (startE Ir.f39.N.length []) S) fun f S' => S' = S ∧ ∃ xs, f = .ret (.d (.lst xs)) by
    obtain ⟨f, S', e, rfl, xs, rfl⟩ := h.ex
    refine ⟨xs, runD (fd := Ir.f39) rfl rfl rfl hS ?_⟩
    rw [hcf]
    exact e
  have rl : (-lineR ≤ (35 : Int)) ∧ (35 : Int) < lineR := by unfold lineR; omega
  simp [Ir.f39, startE, getV, rl, forSrc]
  generalize List.map (fun i => D.int (i : Nat)) (List.range 35) = ys
  have key : ∀ (ys : List D) (xs : List D) (o : Option W), Tot (forFix (setT ⟨cf, Ir.P, fu⟩ (.nm 1)) (execSs ⟨cf, Ir.P, fu⟩ Ir.f39b0) ys [some (.d (.lst xs)), o] S) fun f S' => S' = S ∧ ∃ xs o, f = Flow.nx [some (.d (.lst xs)), o] := by
    intro ys
    induction ys with
    | nil => intro xs o; simp [forFix]
    | cons y ys ih =>
      intro xs o
      rw [forFix]
      try simp only [bind_bnd]
      simp [getV, noExc]
      exact ih _ _
  refine Tot.seq (key ys _ _) ?_
  rintro f S' ⟨rfl, xs, o, rfl⟩
  simp [getV]
theorem RowG.set {m k : Nat} {xs : List D} {y : D} (h : RowG m (.tup xs)) (hy : GN y) : RowG m (.tup (xs.set k y)) := by
  obtain ⟨xs', e, h1, h2⟩ := h
  cases e
  refine ⟨_, rfl, by simpa using h1, fun z hz => ?_⟩
  rcases List.mem_or_eq_of_mem_set hz with hz | rfl
  · exact h2 z hz
  · exact hy
theorem ixN_lt {n : Nat} {r : Int} (h0 : 0 ≤ r) (h1 : r < n) : ∃ j, L2.ixN n r = some j := by
  unfold L2.ixN
  simp [h0, h1]
theorem F19 {m : Nat} {c : Int} (h : p.Ok N) (hN : N + 100 < 1000000) (hm : 1 ≤ m) (hm2 : m ≤ 6) (hT : ∀ k, belows k T = true) : Tot (callF Ir.P fu (n + 3) 49 [.loc 1, .d (.int m), .d (.int c)] (p.st ++ T)) (GenT (RowG m) 20 N T) := by
  have hd : DrawT (callF Ir.P fu (n + 2)) := F12
  have h18 : NumT (callF Ir.P fu (n + 2)) := F18'
  have h17 : UnitT (callF Ir.P fu (n + 2)) := F17'
  rw [runT (fd := Ir.f49) rfl rfl]
  generalize callF Ir.P fu (n + 2) = cf at *
  refine Tot.fin ?_
  have hm' : (0 : Int) < m := by omega
  have hm3 : (m : Int) < 1000000 := by omega
  simp [Ir.f49, startE, getV]
  refine Tot.seq (hd h (by omega) (by decide) (by decide) hT) ?_
  rintro _ _ ⟨r, p1, rfl, rfl, h0, h1, k1⟩
  by_cases r0 : r = 0
  · obtain ⟨x, hx, e⟩ := h17 (m := m) (a := c) (bl_st (p := p1) hT) (by omega)
    simp [r0, getV, e]
    exact fin_q0 hT ⟨x, p1, rfl, rfl, hx, k1.up (by omega)⟩
  · simp [r0, getV]
    refine Tot.seq (hd k1 (by omega) hm' hm3 hT) ?_
    rintro _ _ ⟨a, p2, rfl, rfl, a0, a1, k2⟩
    obtain ⟨x, hx, e⟩ := h17 (m := m) (a := a) (bl_st (p := p2) hT) (by omega)
    obtain ⟨xs, rfl, hx1, hx2⟩ := hx
    simp [getV, e]
    have hx : RowG m (.tup xs) := ⟨xs, rfl, hx1, hx2⟩
    by_cases r2 : 2 < r
    · simp [r2, getV]
      refine Tot.seq (h18 k2 (by omega) (bl_app hT)) ?_
      rintro _ _ ⟨y, p3, rfl, rfl, hy, k3⟩
      simp [getV]
      refine Tot.seq (hd k3 (by omega) hm' hm3 (bl_app hT)) ?_
      rintro _ _ ⟨b, p4, rfl, rfl, b0, b1, k4⟩
      obtain ⟨j, hj⟩ := ixN_lt (n := xs.length) b0 (by omega)
      simp [hj]
      by_cases r5 : r = 5
      · have rl : (-lineR ≤ (m : Int)) ∧ (m : Int) < lineR := by unfold lineR; omega
        simp [r5, getV, rl, wipeE, lcSrc]
        refine Tot.seq (Tot.lcG GN (fun i S => ∃ p', S = Po.st p' ++ (T ++ [.lst (xs.set j y)]) ∧ p'.Ok (N + 4 + i)) (xs := (List.range m).map fun i => D.int (i : Nat)) (fun η S => by rw [ec_no]) ?_ _ [] 0 _ (fun _ h => h) (by simp) (by simp; exact Nat.le_trans hm2 (by decide)) (by simp) ⟨p4, rfl, k4⟩) ?_
        · rintro z hz i S ⟨p5, rfl, k5⟩ hi
          simp at hi
          simp [getV]
          refine (h18 k5 (by omega) (bl_app hT)).mono ?_
          rintro _ _ ⟨u, p6, rfl, rfl, hu, k6⟩
          exact ⟨u, rfl, hu, p6, rfl, k6⟩
        · rintro zs _ ⟨hl, hz, p7, rfl, k7⟩
          simp [getV]
          simp at hl k7
          exact fin_q hT ⟨_, p7, rfl, rfl, ⟨zs, rfl, by simpa using hl, hz⟩, k7.up (by omega)⟩
      · simp [r5, getV]
        exact fin_q hT ⟨_, p4, rfl, rfl, hx.set hy, k4.up (by omega)⟩
    · have r5 : ¬ r = 5 := by omega
      simp [r2, r5, getV]
      exact fin_q hT ⟨_, p2, rfl, rfl, hx, k2.up (by omega)⟩
end
end K07
/-! K12: a mixed list. -/
namespace K07
open RI QP
def LocQ (n : Nat) (Q : W → Store → Prop) : Flow → Store → Prop := fun f S1 => Sok n S1 ∧ ∃ l xs, f = .ret (.loc l) ∧ n ≤ l ∧ S1[l]? = some (.lst xs) ∧ Q (.d (.lst xs)) (S1.take n)
theorem Tot_finL {r : Res Flow} {n : Nat} {Q : W → Store → Prop} (h : Tot r (LocQ n Q)) : Tot (finish false n r) Q := by
  cases r with
  | ok f S1 =>
    obtain ⟨s, l, xs, rfl, hl, e, q⟩ := h.h
    have : ¬ l < n := by omega
    simp [finish, close, s.b, s.l, freeze, this, e, cellD]
    exact q
  | exc _ _ _ => exact h.h.elim
  | stk => exact h.h.elim
def isInts (x : List D) : Prop := ∀ y ∈ x, ∃ i : Int, y = .int i
def MixG (G : D → Prop) (m : Nat) (x : D) : Prop := ∃ xs, x = .lst xs ∧ xs.length = m ∧ ∀ y ∈ xs, G y
section
variable {fu n N : Nat} {S : Store} {p : Po} {T : Store}
def MixT (cf : Nat → List W → Store → Res W) : Prop := ∀ {N : Nat} {p : Po} {T : Store} {m : Nat} {xs : List D} (G : D → Prop), p.Ok N → N + 100 < 1000000 → xs.length = m → m ≤ 10 → (∀ y ∈ xs, G y) → (∀ k, belows k T = true) → Tot (cf 38 [.loc 1, .d (.lst xs)] (p.st ++ T)) (GenT (MixG G m) 20 N T)
theorem F13' : MixT (callF Ir.P fu (n + 2)) := by
  intro N p T m xs G h hN hm hm2 hi hT
  have hd : DrawT (callF Ir.P fu (n + 1)) := F12
  rw [runT (fd := Ir.f38) rfl rfl]
  generalize callF Ir.P fu (n + 1) = cf at *
  refine Tot_finL ?_
  have rl : (-lineR ≤ (xs.length : Int)) ∧ (xs.length : Int) < lineR := by unfold lineR; omega
  simp [Ir.f38, startE, getV, rl, forSrc]
  have key : ∀ (ys ls ps : List D) (p' : Po) (o : Option W), ls.length = ys.length → ps.length + ls.length = m → (∀ y ∈ ls, G y) → (∀ y ∈ ps, G y) → p'.Ok (N + ps.length) →
      Tot (forFix (setT ⟨cf, Ir.P, fu⟩ (.nm 4)) (execSs ⟨cf, Ir.P, fu⟩ Ir.f38b0) ys [some (.loc 1), some (.d (.lst xs)), some (.loc (2 + T.length)), some (.loc (2 + (T.length + 1))), o] (p'.st ++ (T ++ [.lst ls, .lst ps]))) fun f S' => ∃ (p2 : Po) (qs : List D) (o : Option W), S' = p2.st ++ (T ++ [.lst [], .lst qs]) ∧ qs.length = m ∧ (∀ y ∈ qs, G y) ∧ p2.Ok (N + m) ∧ f = Flow.nx [some (.loc 1), some (.d (.lst xs)), some (.loc (2 + T.length)), some (.loc (2 + (T.length + 1))), o] := by
    intro ys
    induction ys with
    | nil =>
      intro ls ps p' o h1 h2 h3 h4 h5
      have : ls = [] := List.eq_nil_of_length_eq_zero h1
      subst this
      have h6 : ps.length = m := by simpa using h2
      simp only [forFix, Tot_ok]
      exact ⟨p', ps, o, rfl, h6, h4, h6 ▸ h5, rfl⟩
    | cons y ys ih =>
      intro ls ps p' o h1 h2 h3 h4 h5
      simp only [List.length_cons] at h1
      have hpos : (0 : Int) < ls.length := by omega
      rw [forFix]
      try simp only [bind_bnd]
      simp [getV, noExc]
      refine Tot.seq (hd h5 (by omega) hpos (by omega) (bl_app2 hT)) ?_
      rintro _ _ ⟨r, p2, rfl, rfl, r0, r1, k2⟩
      obtain ⟨j, hj⟩ := ixN_lt (n := ls.length) r0 r1
      have hjl : j < ls.length := by
        unfold L2.ixN at hj
        simp [r0, r1] at hj
        omega
      have hps : ps.length < line := Nat.lt_of_le_of_lt (by omega : ps.length ≤ 10) (by decide)
      simp [hj, List.getElem?_eq_getElem hjl, hps]
      have hy := h3 _ (List.getElem_mem hjl)
      have := ih (ls.eraseIdx j) (ps ++ [ls[j]]) p2 (some (.d y)) (by rw [List.length_eraseIdx_of_lt hjl]; omega) (by rw [List.length_eraseIdx_of_lt hjl]; simp; omega) (fun z hz => h3 z (List.mem_of_mem_eraseIdx hz)) (fun z hz => by
        rcases List.mem_append.mp hz with hz | hz
        · exact h4 z hz
        · simp at hz; subst hz; exact hy) (by
        refine k2.up ?_
        simp
        omega)
      exact this
  refine Tot.seq (key _ xs [] p _ (by simp) (by simpa using hm) hi (fun z hz => by simp at hz) (by simpa using h)) ?_
  rintro _ _ ⟨p2, qs, o, rfl, h1, h2, h3, rfl⟩
  simp [getV]
  refine ⟨sok_tl hT, 2 + (T.length + 1), qs, rfl, by omega, by simp, ?_⟩
  rw [take_tl]
  exact ⟨_, p2, rfl, rfl, ⟨qs, rfl, h1, h2⟩, h3.up (by omega)⟩
end
end K07
/-! K13: a wish drawn: its parts. -/
namespace K07
open RI QP
def ROpt (m : Nat) (x : D) : Prop := x = .non ∨ RowG m x
def LG (G : D → Prop) (m : Nat) (x : D) : Prop := ∃ xs, x = .lst xs ∧ xs.length = m ∧ ∀ y ∈ xs, G y
section
variable {fu n N : Nat} {S : Store} {p : Po} {T : Store}
theorem comp_pool {C : Ctx} {i : Nat} {e : IE} {η : Env} {xs : List D} (G : D → Prop) (k : Nat) (hi : i < η.length) (hl : xs.length ≤ 6) (h : p.Ok N) (hN : N + 6 * k + 100 < 1000000)
    (he : ∀ x ∈ xs, ∀ (p' : Po) (N' : Nat), p'.Ok N' → N' + k ≤ N + 6 * k → Tot ((evalP C e).1 (η.set i (some (.d x))) (p'.st ++ T)) (GenT G k N' T)) :
    Tot (lcSrc (setT C (.nm i)) (evalC C .no) (evalP C e).1 η (.fix xs) (p.st ++ T)) fun zs S' => zs.length = xs.length ∧ (∀ z ∈ zs, G z) ∧ ∃ p' : Po, S' = p'.st ++ T ∧ p'.Ok (N + 6 * k) := by
  have hm : xs.length * k ≤ 6 * k := Nat.mul_le_mul_right k hl
  have := Tot.lcG (set := setT C (.nm i)) (tst := evalC C .no) (elt := (evalP C e).1) (η := η) G (fun j S => ∃ p', S = Po.st p' ++ T ∧ p'.Ok (N + j * k)) (xs := xs) (fun η S => by rw [ec_no]) ?_ xs [] 0 (p.st ++ T) (fun _ h => h) (by simp) (by simp; exact Nat.le_trans hl (by decide)) (by simp) ⟨p, rfl, by simpa using h⟩
  · refine Tot.mono this ?_
    rintro zs S' ⟨h1, h2, p', h3, h4⟩
    exact ⟨by simpa using h1, h2, p', h3, h4.up (by omega)⟩
  · rintro x hx j S ⟨p', rfl, k'⟩ hj
    have hj' : (j + 1) * k ≤ xs.length * k := Nat.mul_le_mul_right k hj
    have hjk : (j + 1) * k = j * k + k := Nat.succ_mul j k
    rw [st_nm, if_pos hi, bnd_ok]
    refine (he x hx p' _ k' (by omega)).mono ?_
    rintro w S' ⟨y, p2, rfl, rfl, hy, k2⟩
    exact ⟨y, rfl, hy, p2, rfl, k2.up (by omega)⟩
def RowT (cf : Nat → List W → Store → Res W) : Prop := ∀ {N : Nat} {p : Po} {T : Store} {m : Nat} {c : Int}, p.Ok N → N + 100 < 1000000 → 1 ≤ m → m ≤ 6 → (∀ k, belows k T = true) → Tot (cf 49 [.loc 1, .d (.int m), .d (.int c)] (p.st ++ T)) (GenT (RowG m) 20 N T)
theorem F19' : RowT (callF Ir.P fu (n + 3)) := by
  intro N p T m c h hN hm hm2 hT
  exact F19 h hN hm hm2 hT
variable {cf : Nat → List W → Store → Res W} {m : Nat} {w1 w3 w4 w5 : Option W} {rs : List D}
theorem rng_ok (hm2 : m ≤ 6) : (-lineR ≤ (m : Int)) ∧ (m : Int) < lineR := by unfold lineR; omega
theorem rng_mem {x : D} (hx : x ∈ (List.range m).map fun i => D.int (i : Nat)) : ∃ i : Nat, i < m ∧ x = .int i := by
  simp at hx
  obtain ⟨i, hi, rfl⟩ := hx
  exact ⟨i, hi, rfl⟩
theorem c20_0 (h19 : RowT cf) (h : p.Ok N) (hN : N + 1000 < 1000000) (hm : 1 ≤ m) (hm2 : m ≤ 6) (hT : ∀ k, belows k T = true) :
    Tot ((evalP ⟨cf, Ir.P, fu⟩ Ir.f50c0).1 [some (.loc 1), w1, some (.d (.int m)), w3, w4, w5, none, none, none] (p.st ++ T)) (GenT (LG (RowG m) m) 200 N T) := by
  simp [getV, rng_ok hm2, wipeE]
  refine Tot.seq (comp_pool (RowG m) 20 (by simp) (by simpa using hm2) h (by omega) ?_) ?_
  · rintro x hx p' N' k' hN'
    obtain ⟨i, _, rfl⟩ := rng_mem hx
    simp [getV]
    exact h19 k' (by omega) hm hm2 hT
  · rintro zs _ ⟨h1, h2, p', rfl, k'⟩
    simp at h1
    exact ⟨_, p', rfl, rfl, ⟨zs, rfl, h1, h2⟩, k'.up (by omega)⟩
theorem c20_1 (h13 : MixT cf) (h17 : UnitT cf) (h : p.Ok N) (hN : N + 1000 < 1000000) (hm : 1 ≤ m) (hm2 : m ≤ 6) (hT : ∀ k, belows k T = true) :
    Tot ((evalP ⟨cf, Ir.P, fu⟩ Ir.f50c1).1 [some (.loc 1), w1, some (.d (.int m)), w3, w4, w5, none, none, none] (p.st ++ T)) (GenT (LG (RowG m) m) 200 N T) := by
  have rl : (-lineR ≤ (m : Int)) ∧ m < 16777216 := by unfold lineR; omega
  simp [getV, rl, wipeE]
  refine ⟨by omega, ?_⟩
  refine Tot.seq (h13 (fun y => ∃ i : Int, y = .int i) (m := m) (xs := (List.range m).map fun i => D.int (i : Nat)) h (by omega) (by simp) (by omega) (fun y hy => ?_) hT) ?_
  · obtain ⟨i, _, rfl⟩ := rng_mem hy
    exact ⟨_, rfl⟩
  · rintro _ _ ⟨_, p', rfl, rfl, ⟨xs, rfl, hx1, hx2⟩, k'⟩
    simp
    refine Tot.seq (comp_pool (RowG m) 0 (by simp) (by omega) k' (by omega) ?_) ?_
    · rintro x hx p' N' k' hN'
      obtain ⟨i, rfl⟩ := hx2 x hx
      obtain ⟨y, hy, e⟩ := h17 (m := m) (a := i) (bl_st (p := p') hT) (by omega)
      simp [getV, e]
      exact ⟨y, p', rfl, rfl, hy, k'⟩
    · rintro zs _ ⟨h1, h2, p', rfl, k'⟩
      exact ⟨_, p', rfl, rfl, ⟨zs, rfl, by omega, h2⟩, k'.up (by omega)⟩
theorem c20_2 (hd : DrawT cf) (h17 : UnitT cf) (h : p.Ok N) (hN : N + 1000 < 1000000) (hm : 1 ≤ m) (hm2 : m ≤ 6) (hT : ∀ k, belows k T = true) :
    Tot ((evalP ⟨cf, Ir.P, fu⟩ Ir.f50c2).1 [some (.loc 1), w1, some (.d (.int m)), w3, w4, w5, none, none, none] (p.st ++ T)) (GenT (LG (RowG m) m) 200 N T) := by
  simp [getV, rng_ok hm2, wipeE]
  refine Tot.seq (comp_pool (RowG m) 1 (by simp) (by simpa using hm2) h (by omega) ?_) ?_
  · rintro x hx p' N' k' hN'
    simp [getV]
    refine Tot.seq (hd k' (by omega) (by omega) (by omega) hT) ?_
    rintro _ _ ⟨r, p2, rfl, rfl, r0, r1, k2⟩
    obtain ⟨y, hy, e⟩ := h17 (m := m) (a := r) (bl_st (p := p2) hT) (by omega)
    simp [e]
    exact ⟨y, p2, rfl, rfl, hy, k2⟩
  · rintro zs _ ⟨h1, h2, p', rfl, k'⟩
    simp at h1
    exact ⟨_, p', rfl, rfl, ⟨zs, rfl, h1, h2⟩, k'.up (by omega)⟩
theorem c20_3 (hd : DrawT cf) (h : p.Ok N) (hN : N + 1000 < 1000000) (hm : 1 ≤ m) (hm2 : m ≤ 6) (hr1 : rs.length = m) (hr : ∀ r ∈ rs, RowG m r) (hT : ∀ k, belows k T = true) :
    Tot ((evalP ⟨cf, Ir.P, fu⟩ Ir.f50c3).1 [some (.loc 1), w1, some (.d (.int m)), w3, some (.d (.lst rs)), w5, none, none, none] (p.st ++ T)) (GenT (LG (ROpt m) m) 200 N T) := by
  simp [getV, wipeE]
  refine Tot.seq (comp_pool (ROpt m) 1 (by simp) (by omega) h (by omega) ?_) ?_
  · rintro x hx p' N' k' hN'
    simp [getV]
    refine Tot.seq (hd k' (by omega) (by omega) (by omega) hT) ?_
    rintro _ _ ⟨r, p2, rfl, rfl, r0, r1, k2⟩
    by_cases e : r = 0
    · simp [e]
      exact ⟨_, p2, rfl, rfl, .inl rfl, k2⟩
    · simp [e, getV]
      exact ⟨_, p2, rfl, rfl, .inr (hr x hx), k2⟩
  · rintro zs _ ⟨h1, h2, p', rfl, k'⟩
    exact ⟨_, p', rfl, rfl, ⟨zs, rfl, by omega, h2⟩, k'.up (by omega)⟩
theorem in_ints {C : Ctx} {c : Int} : ∀ {ls : List Int}, ∃ b, cmpW C .inn (.d (.int c)) (.d (.lst (ls.map .int))) S = .ok (.d (.bl b)) S := by
  intro ls
  have h1 : (D.int c |> flatD) = true := rfl
  have h2 : (ls.map D.int).all flatD = true := by
    simp
    intro _ _
    rfl
  refine ⟨(ls.map D.int).any fun y => eqF y (.int c), ?_⟩
  have h3 : inD (.d (.int c)) (.d (.lst (ls.map .int))) S = some ((ls.map D.int).any fun y => eqF y (.int c)) := by
    have e : inD (.d (.int c)) (.d (.lst (ls.map .int))) S = pyIn .lst (.int c) (ls.map .int) := rfl
    rw [e]
    unfold pyIn
    rw [h2, show flatD (D.int c) = true from rfl]
    rfl
  unfold cmpW
  simp only [cmpD, h3, ofO_some, Res.bind_ok, bnd_ok]
theorem c20_4 {ls : List Int} (hd : DrawT cf) (h17 : UnitT cf) (h : p.Ok N) (hN : N + 1000 < 1000000) (hm : 1 ≤ m) (hm2 : m ≤ 6) (hr1 : rs.length = m) (hr : ∀ r ∈ rs, ROpt m r) (hT : ∀ k, belows k T = true) :
    Tot ((evalP ⟨cf, Ir.P, fu⟩ Ir.f50c4).1 [some (.loc 1), w1, some (.d (.int m)), w3, some (.d (.lst rs)), some (.d (.lst (ls.map .int))), none, none, none] (p.st ++ T)) (GenT (LG (ROpt m) m) 200 N T) := by
  simp [getV, wipeE, rng_ok hm2]
  refine Tot.seq (comp_pool (ROpt m) 1 (by simp) (by simpa using hm2) h (by omega) ?_) ?_
  · rintro x hx p' N' k' hN'
    obtain ⟨i, hi, rfl⟩ := rng_mem hx
    obtain ⟨b, eb⟩ := in_ints (C := ⟨cf, Ir.P, fu⟩) (S := p'.st ++ T) (c := i) (ls := ls)
    have hat : L2.atI rs (i : Int) = some rs[i] := L2.atI_nat (List.getElem?_eq_getElem (by omega))
    have hri := hr rs[i] (List.getElem_mem (by omega))
    simp [getV, eb]
    cases b with
    | false =>
      simp [getV, hat]
      exact ⟨_, p', rfl, rfl, hri, k'.up (by omega)⟩
    | true =>
      simp [getV]
      refine Tot.seq (hd k' (by omega) (by omega) (by omega) hT) ?_
      rintro _ _ ⟨r, p2, rfl, rfl, r0, r1, k2⟩
      by_cases e : 0 < r
      · obtain ⟨y, hy, e17⟩ := h17 (m := m) (a := i) (bl_st (p := p2) hT) (by omega)
        simp [e, e17, getV]
        exact ⟨_, p2, rfl, rfl, .inr hy, k2⟩
      · simp [e, getV, hat]
        exact ⟨_, p2, rfl, rfl, hri, k2⟩
  · rintro zs _ ⟨h1, h2, p', rfl, k'⟩
    simp at h1
    exact ⟨_, p', rfl, rfl, ⟨zs, rfl, h1, h2⟩, k'.up (by omega)⟩
end
end K07
/-! K14: a wish drawn. -/
namespace K07
open RI QP
def LockG (m : Nat) (x : D) : Prop := ∃ ls : List Int, x = .lst (ls.map .int) ∧ incZ ls = true ∧ ∀ l ∈ ls, 0 ≤ l ∧ l < m
def SpecG (x : D) : Prop := ∃ (rs : List D) (ls : List Int) (j : Int), x = .tup [.tup rs, .tup (ls.map .int), .int j] ∧ 1 ≤ rs.length ∧ rs.length ≤ 6 ∧ (∀ r ∈ rs, ROpt rs.length r) ∧ incZ ls = true ∧ (∀ l ∈ ls, 0 ≤ l ∧ l < rs.length) ∧ 0 ≤ j ∧ j ≤ 2
theorem incZ_app {k : Int} : ∀ {ls : List Int}, incZ ls = true → (∀ l ∈ ls, l < k) → incZ (ls ++ [k]) = true
  | [], _, _ => rfl
  | [a], _, h => by simp [incZ]; exact h a (by simp)
  | a :: b :: r, h1, h2 => by
    have := incZ_app (ls := b :: r) (k := k) (by simp [incZ] at h1 ⊢; exact h1.2) fun l hl => h2 l (by simp at hl ⊢; exact .inr hl)
    simp only [List.cons_append, incZ] at this h1 ⊢
    simp at h1
    simp [h1.1]
    exact this
section
variable {fu n N : Nat} {S : Store} {p : Po} {T : Store}
variable {cf : Nat → List W → Store → Res W} {m : Nat} {w1 w3 w4 w5 : Option W} {rs : List D}
theorem c20_5 (hd : DrawT cf) (h : p.Ok N) (hN : N + 1000 < 1000000) (hm : 1 ≤ m) (hm2 : m ≤ 6) (hT : ∀ k, belows k T = true) :
    Tot ((evalP ⟨cf, Ir.P, fu⟩ Ir.f50c5).1 [some (.loc 1), w1, some (.d (.int m)), w3, w4, w5, none, none, none] (p.st ++ T)) (GenT (LockG m) 200 N T) := by
  simp [getV, rng_ok hm2, wipeE, lcSrc]
  refine Tot.seq (Tot_lcI (fun ys acc S => ∃ (k : Nat) (ls : List Int) (p' : Po), k + ys.length = m ∧ ys = (List.range' k ys.length).map (fun i => D.int (i : Nat)) ∧ acc = ls.map .int ∧ incZ ls = true ∧ (∀ l ∈ ls, 0 ≤ l ∧ l < k) ∧ ls.length ≤ k ∧ S = p'.st ++ T ∧ p'.Ok (N + k)) ?_ _ [] _ ⟨0, [], p, by simp, by simp [List.range_eq_range'], rfl, rfl, by simp, by simp, rfl, by simpa using h⟩) ?_
  · rintro x xs acc S ⟨k, ls, p', h1, h2, rfl, h3, h4, h5, rfl, k'⟩
    simp only [List.length_cons] at h1 h2
    rw [List.range'_succ, List.map_cons] at h2
    have hx : x = .int (k : Int) := by injection h2
    have hxs : xs = (List.range' (k + 1) xs.length).map fun i => D.int (i : Nat) := by injection h2
    subst hx
    have hl : (ls.map D.int).length < line := by
      simp
      exact Nat.lt_of_le_of_lt (by omega : ls.length ≤ 6) (by decide)
    simp only [List.length_map] at hl
    simp [lcTurn, ec_yes, getV]
    refine Tot.seq (hd k' (by omega) (by decide) (by decide) hT) ?_
    rintro _ _ ⟨r, p2, rfl, rfl, r0, r1, k2⟩
    by_cases e : r = 0
    · simp [e, getV, hl]
      refine ⟨k + 1, by omega, hxs, ls ++ [(k : Int)], by simp, incZ_app h3 fun l hl => (h4 l hl).2, ?_, by simp; omega, p2, rfl, k2.up (by omega)⟩
      intro l hl
      rcases List.mem_append.mp hl with hl | hl
      · have := h4 l hl; omega
      · simp at hl; subst hl; omega
    · simp [e]
      refine ⟨k + 1, by omega, hxs, ls, by simp, h3, ?_, by omega, p2, rfl, k2.up (by omega)⟩
      intro l hl
      have := h4 l hl
      omega
  · rintro zs _ ⟨k, ls, p', h1, _, rfl, h3, h4, h5, rfl, k'⟩
    simp at h1
    subst h1
    exact ⟨_, p', rfl, rfl, ⟨ls, rfl, h3, h4⟩, k'.up (by omega)⟩
abbrev e20 (mo : Int) (m : Nat) (kind : Int) (rs : List D) (w5 : Option W) : Env := [some (.loc 1), some (.d (.int mo)), some (.d (.int m)), some (.d (.int kind)), some (.d (.lst rs)), w5, none, none, none]
variable {kind mo : Int} {k : Env → Store → Res Flow} {Q : Flow → Store → Prop}
theorem s20_3 (h13 : MixT cf) (h17 : UnitT cf) (h : p.Ok N) (hN : N + 1000 < 1000000) (hm : 1 ≤ m) (hm2 : m ≤ 6) (hr1 : rs.length = m) (hr : ∀ r ∈ rs, RowG m r) (hT : ∀ k, belows k T = true)
    (hk : ∀ (rs : List D) (p' : Po), rs.length = m → (∀ r ∈ rs, RowG m r) → p'.Ok (N + 200) → Tot (k (e20 mo m kind rs none) (p'.st ++ T)) Q) :
    Tot ((execS ⟨cf, Ir.P, fu⟩ Ir.f50s3 (e20 mo m kind rs none) (p.st ++ T)).bnd fun f S1 => seqF f S1 k) Q := by
  by_cases e : kind = 0
  · simp [-ev_lc, getV, e]
    refine Tot.seq (c20_1 h13 h17 h hN hm hm2 hT) ?_
    rintro _ _ ⟨_, p', rfl, rfl, ⟨zs, rfl, h1, h2⟩, k'⟩
    try simp
    exact e ▸ hk zs p' h1 h2 k'
  · simp [-ev_lc, getV, e]
    exact hk rs p hr1 hr (h.up (by omega))
theorem s20_4 (hd : DrawT cf) (h17 : UnitT cf) (h : p.Ok N) (hN : N + 1000 < 1000000) (hm : 1 ≤ m) (hm2 : m ≤ 6) (hr1 : rs.length = m) (hr : ∀ r ∈ rs, RowG m r) (hT : ∀ k, belows k T = true)
    (hk : ∀ (rs : List D) (p' : Po), rs.length = m → (∀ r ∈ rs, RowG m r) → p'.Ok (N + 200) → Tot (k (e20 mo m kind rs none) (p'.st ++ T)) Q) :
    Tot ((execS ⟨cf, Ir.P, fu⟩ Ir.f50s4 (e20 mo m kind rs none) (p.st ++ T)).bnd fun f S1 => seqF f S1 k) Q := by
  by_cases e : kind = 1
  · simp [-ev_lc, getV, e]
    refine Tot.seq (c20_2 hd h17 h hN hm hm2 hT) ?_
    rintro _ _ ⟨_, p', rfl, rfl, ⟨zs, rfl, h1, h2⟩, k'⟩
    try simp
    exact e ▸ hk zs p' h1 h2 k'
  · simp [-ev_lc, getV, e]
    exact hk rs p hr1 hr (h.up (by omega))
theorem s20_5 (hd : DrawT cf) (h : p.Ok N) (hN : N + 1000 < 1000000) (hm : 1 ≤ m) (hm2 : m ≤ 6) (hr1 : rs.length = m) (hr : ∀ r ∈ rs, RowG m r) (hT : ∀ k, belows k T = true)
    (hk : ∀ (rs : List D) (p' : Po), rs.length = m → (∀ r ∈ rs, ROpt m r) → p'.Ok (N + 200) → Tot (k (e20 mo m kind rs none) (p'.st ++ T)) Q) :
    Tot ((execS ⟨cf, Ir.P, fu⟩ Ir.f50s5 (e20 mo m kind rs none) (p.st ++ T)).bnd fun f S1 => seqF f S1 k) Q := by
  by_cases e : 2 < kind
  · simp [-ev_lc, getV, e]
    refine Tot.seq (c20_3 hd h hN hm hm2 hr1 hr hT) ?_
    rintro _ _ ⟨_, p', rfl, rfl, ⟨zs, rfl, h1, h2⟩, k'⟩
    try simp
    exact hk zs p' h1 h2 k'
  · simp [-ev_lc, getV, e]
    exact hk rs p hr1 (fun r hr' => .inr (hr r hr')) (h.up (by omega))
theorem s20_7 (hd : DrawT cf) (h17 : UnitT cf) (h : p.Ok N) (hN : N + 2000 < 1000000) (hm : 1 ≤ m) (hm2 : m ≤ 6) (hr1 : rs.length = m) (hr : ∀ r ∈ rs, ROpt m r) (hT : ∀ k, belows k T = true)
    (hk : ∀ (rs : List D) (ls : List Int) (p' : Po), rs.length = m → (∀ r ∈ rs, ROpt m r) → incZ ls = true → (∀ l ∈ ls, 0 ≤ l ∧ l < m) → p'.Ok (N + 500) → Tot (k (e20 mo m kind rs (some (.d (.lst (ls.map .int))))) (p'.st ++ T)) Q) :
    Tot ((execS ⟨cf, Ir.P, fu⟩ Ir.f50s7 (e20 mo m kind rs (some (.d (.lst [])))) (p.st ++ T)).bnd fun f S1 => seqF f S1 k) Q := by
  simp [-ev_lc, getV]
  refine Tot.seq (hd h (by omega) (by decide) (by decide) hT) ?_
  rintro _ _ ⟨r, p2, rfl, rfl, r0, r1, k2⟩
  by_cases e : r = 0
  · simp [-ev_lc, getV, e]
    refine Tot.seq (c20_5 hd k2 (by omega) hm hm2 hT) ?_
    rintro _ _ ⟨_, p3, rfl, rfl, ⟨ls, rfl, h1, h2⟩, k3⟩
    try simp [-ev_lc, getV]
    refine Tot.seq (c20_4 hd h17 k3 (by omega) hm hm2 hr1 hr hT) ?_
    rintro _ _ ⟨_, p4, rfl, rfl, ⟨zs, rfl, h3, h4⟩, k4⟩
    try simp [-ev_lc]
    exact hk zs ls p4 h3 h4 h1 h2 (k4.up (by omega))
  · simp [-ev_lc, getV, e]
    exact hk rs [] p2 hr1 hr rfl (by simp) (k2.up (by omega))
end
end K07
/-! K15: a wish drawn. -/
namespace K07
open RI QP
section
variable {fu n N : Nat} {S : Store} {p : Po} {T : Store}
def SpecM (mo : Int) (x : D) : Prop := SpecG x ∧ ∃ (rs : List D) (l j : D), x = .tup [.tup rs, l, j] ∧ (rs.length : Int) ≤ mo
def WishT (cf : Nat → List W → Store → Res W) : Prop := ∀ {N : Nat} {p : Po} {T : Store} {mo : Int}, 1 ≤ mo → mo ≤ 6 → p.Ok N → N + 10000 < 1000000 → (∀ k, belows k T = true) → Tot (cf 50 [.loc 1, .d (.int mo)] (p.st ++ T)) (GenT (SpecM mo) 2000 N T)
theorem s20_0 {mo : Int} (h1mo : 1 ≤ mo) (h6mo : mo ≤ 6) {cf : Nat → List W → Store → Res W} {ss : ISs} {Q : Flow → Store → Prop} (hd : DrawT cf) (h19 : RowT cf) (h : p.Ok N) (hN : N + 10000 < 1000000) (hT : ∀ k, belows k T = true)
    (hk : ∀ (m : Nat) (kind : Int) (rs : List D) (p' : Po), 1 ≤ m → m ≤ 6 → (m : Int) ≤ mo → rs.length = m → (∀ r ∈ rs, RowG m r) → p'.Ok (N + 202) → Tot (execSs ⟨cf, Ir.P, fu⟩ ss (e20 mo m kind rs none) (p'.st ++ T)) Q) :
    Tot (execSs ⟨cf, Ir.P, fu⟩ (.cons Ir.f50s0 (.cons Ir.f50s1 (.cons Ir.f50s2 ss))) [some (.loc 1), some (.d (.int mo)), none, none, none, none, none, none, none] (p.st ++ T)) Q := by
  simp [-ev_lc, startE, getV]
  refine Tot.seq (hd h (by omega) (by omega) (by omega) hT) ?_
  rintro _ _ ⟨r, p1, rfl, rfl, r0, r1, k1⟩
  obtain ⟨m, hm⟩ : ∃ m : Nat, 1 + r = m := ⟨(1 + r).toNat, by omega⟩
  have hm1 : 1 ≤ m := by omega
  have hm2 : m ≤ 6 := by omega
  simp [-ev_lc, getV, hm]
  refine Tot.seq (hd k1 (by omega) (by decide) (by decide) hT) ?_
  rintro _ _ ⟨kind, p2, rfl, rfl, _, _, k2⟩
  try simp [-ev_lc, getV]
  refine Tot.seq (c20_0 h19 k2 (by omega) hm1 hm2 hT) ?_
  rintro _ _ ⟨_, p3, rfl, rfl, ⟨rs, rfl, hr1, hr2⟩, k3⟩
  try simp [-ev_lc]
  exact hk m kind rs p3 hm1 hm2 (by omega) hr1 hr2 (k3.up (by omega))
theorem s20_6 {mo : Int} {cf : Nat → List W → Store → Res W} {m : Nat} {kind : Int} {rs : List D} {k : Env → Store → Res Flow} {Q : Flow → Store → Prop} (h : Tot (k (e20 mo m kind rs (some (.d (.lst [])))) S) Q) : Tot ((execS ⟨cf, Ir.P, fu⟩ Ir.f50s6 (e20 mo m kind rs none) S).bnd fun f S1 => seqF f S1 k) Q := by
  simp [getV]
  exact h
theorem F20' : WishT (callF Ir.P fu (n + 4)) := by
  intro N p T mo hmo1 hmo2 h hN hT
  have hd : DrawT (callF Ir.P fu (n + 3)) := F12
  have h17 : UnitT (callF Ir.P fu (n + 3)) := F17'
  have h19 : RowT (callF Ir.P fu (n + 3)) := F19'
  have h13 : MixT (callF Ir.P fu (n + 3)) := F13'
  rw [runT (fd := Ir.f50) rfl rfl]
  generalize callF Ir.P fu (n + 3) = cf at *
  refine Tot.fin ?_
  have hl : (p.st ++ T).length = 2 + T.length := by simp
  rw [hl]
  refine s20_0 hmo1 hmo2 hd h19 h hN hT ?_
  intro m kind rs p3 hm1 hm2 hmm hr1 hr2 k3
  rw [ss_cons']
  refine s20_3 h13 h17 k3 (by omega) hm1 hm2 hr1 hr2 hT ?_
  intro rs p4 hr1 hr2 k4
  rw [ss_cons']
  refine s20_4 hd h17 k4 (by omega) hm1 hm2 hr1 hr2 hT ?_
  intro rs p5 hr1 hr2 k5
  rw [ss_cons']
  refine s20_5 hd k5 (by omega) hm1 hm2 hr1 hr2 hT ?_
  intro rs p6 hr1 hr2 k6
  rw [ss_cons']
  refine s20_6 ?_
  rw [ss_cons']
  refine s20_7 hd h17 k6 (by omega) hm1 hm2 hr1 hr2 hT ?_
  intro rs ls p7 hr1 hr2 hl1 hl2 k7
  simp [getV]
  refine Tot.seq (hd k7 (by omega) (by decide) (by decide) hT) ?_
  rintro _ _ ⟨r, p8, rfl, rfl, r0, r1, k8⟩
  obtain ⟨x, hx, e⟩ := ix_in (xs := [D.int 0, D.int 0, D.int 0, D.int 1, D.int 2]) r0 (by simpa using r1)
  obtain ⟨j, rfl, j0, j2⟩ : ∃ j, x = .int j ∧ 0 ≤ j ∧ j ≤ 2 := by
    simp at hx
    rcases hx with rfl | rfl | rfl <;> exact ⟨_, rfl, by decide, by decide⟩
  simp [e]
  refine fin_q0 hT ⟨_, p8, rfl, rfl, ⟨⟨rs, ls, j, rfl, by omega, by omega, ?_, hl1, ?_, j0, j2⟩, rs, _, _, rfl, by omega⟩, k8.up (by omega)⟩
  · rw [hr1]; exact hr2
  · rw [hr1]; exact hl2
end
end K07
/-! K16: sums and products of numbers of any size. -/
namespace K07
open RI EU
variable {fu n : Nat} {S : Store}
/-- in lowest terms -/
def lowD (a b : Int) : D := .tup [.int (a.fdiv (Int.gcd a b)), .int (b.fdiv (Int.gcd a b))]
theorem low40 {a b : Int} (hS : belows S.length S = true) (hfu : 1000000 < fu) (h0 : 0 < b) (hb : b.natAbs.log2 < 8000) : callF Ir.P fu (n + 1) 41 [.d (.int a), .d (.int b)] S = .ok (.d (lowD a b)) S := F16 hS hfu h0 hb
/-- sum and product, as the program and the law reckon them -/
def plusD (a b c d : Int) : D := lowD (a * d + c * b) (b * d)
def timesD (a b c d : Int) : D := lowD (a * c) (b * d)
/-- small enough to be multiplied -/
structure Sm (a b : Int) : Prop where
  p : 0 < b
  a : a.natAbs.log2 < 3000
  b : b.natAbs.log2 < 3000
theorem log2_mul {a b : Nat} : (a * b).log2 ≤ a.log2 + b.log2 + 1 := by
  by_cases h : a * b = 0
  · rw [h]; simp
  · have h1 : a < 2 ^ (a.log2 + 1) := Nat.lt_log2_self
    have h2 : b < 2 ^ (b.log2 + 1) := Nat.lt_log2_self
    have h3 : a * b < 2 ^ (a.log2 + 1) * 2 ^ (b.log2 + 1) := Nat.mul_lt_mul'' h1 h2
    rw [← Nat.pow_add] at h3
    have := (Nat.log2_lt h).mpr h3
    omega
theorem bits_sm {a b : Int} (h1 : a.natAbs.log2 < 3000) (h2 : b.natAbs.log2 < 3000) : bitsOk a b = true := by
  simp only [bitsOk, decide_eq_true_eq]
  omega
theorem Sm.mul {a b c d : Int} (h : Sm a b) (h' : Sm c d) : 0 < b * d ∧ (b * d).natAbs.log2 < 8000 := by
  refine ⟨Int.mul_pos h.p h'.p, ?_⟩
  rw [Int.natAbs_mul]
  have := log2_mul (a := b.natAbs) (b := d.natAbs)
  have := h.b
  have := h'.b
  omega
theorem ti42 {a b c d : Int} (hS : belows S.length S = true) (hfu : 1000000 < fu) (h : Sm a b) (h' : Sm c d) : callF Ir.P fu (n + 2) 43 [.d (.tup [.int a, .int b]), .d (.tup [.int c, .int d])] S = .ok (.d (timesD a b c d)) S := by
  refine runD (fd := Ir.f43) rfl rfl rfl hS ?_
  have e9 := low40 (n := n) (a := a * c) hS hfu (h.mul h').1 (h.mul h').2
  generalize callF Ir.P fu (n + 1) = cf at *
  simp [Ir.f43, startE, getV, bits_sm h.a h'.a, bits_sm h.b h'.b, e9, timesD]
theorem pl41 {a b c d : Int} (hS : belows S.length S = true) (hfu : 1000000 < fu) (h : Sm a b) (h' : Sm c d) : callF Ir.P fu (n + 2) 42 [.d (.tup [.int a, .int b]), .d (.tup [.int c, .int d])] S = .ok (.d (plusD a b c d)) S := by
  refine runD (fd := Ir.f42) rfl rfl rfl hS ?_
  have e9 := low40 (n := n) (a := a * d + c * b) hS hfu (h.mul h').1 (h.mul h').2
  generalize callF Ir.P fu (n + 1) = cf at *
  simp [Ir.f42, startE, getV, bits_sm h.a h'.b, bits_sm h'.a h.b, bits_sm h.b h'.b, e9, plusD]
end K07
/-! K17: numbers are rationals. -/
namespace K07
open RI EU
variable {fu n : Nat} {S : Store}
def ratD (q : Rat) : D := .tup [.int q.num, .int q.den]
theorem lowD_rat (a : Int) {d : Nat} (h : d ≠ 0) : lowD a (d : Int) = ratD (mkRat a d) := by
  rw [Rat.mkRat_def, dif_neg h, Rat.normalize_eq]
  have e : Int.gcd a (d : Int) = a.natAbs.gcd d := rfl
  simp only [lowD, ratD, e]
  rw [Int.fdiv_eq_ediv_of_nonneg _ (by omega), Int.fdiv_eq_ediv_of_nonneg _ (by omega)]
  rfl
theorem plus_rat (p q : Rat) : plusD p.num p.den q.num q.den = ratD (p + q) := by
  have h : p.den * q.den ≠ 0 := Nat.mul_ne_zero p.den_nz q.den_nz
  have e := Rat.mkRat_add_mkRat p.num q.num p.den_nz q.den_nz
  rw [Rat.mkRat_self, Rat.mkRat_self] at e
  rw [e, ← lowD_rat _ h]
  simp [plusD]
theorem times_rat (p q : Rat) : timesD p.num p.den q.num q.den = ratD (p * q) := by
  have h : p.den * q.den ≠ 0 := Nat.mul_ne_zero p.den_nz q.den_nz
  have e := Rat.mkRat_mul_mkRat p.num q.num p.den q.den
  rw [Rat.mkRat_self, Rat.mkRat_self] at e
  rw [e, ← lowD_rat _ h]
  simp [timesD]
theorem numB_rat (q : Rat) : numB (ratD q) = true := by
  have h1 := q.den_nz
  have h2 : Int.gcd q.num (q.den : Int) = 1 := q.reduced
  simp [numB, ratD, h2]
  omega
theorem rat_numB {x : D} (h : numB x = true) : ∃ q, x = ratD q := by
  obtain ⟨a, b, rfl, h1, h2⟩ := numB_tup h
  obtain ⟨d, rfl⟩ : ∃ d : Nat, b = d := ⟨b.toNat, by omega⟩
  exact ⟨⟨a, d, by omega, h2⟩, rfl⟩
theorem ratD_inj {p q : Rat} (h : ratD p = ratD q) : p = q := by
  simp [ratD] at h
  exact Rat.ext h.1 (by have := h.2; omega)
/-- small -/
def SmQ (q : Rat) : Prop := Sm q.num q.den
theorem plus41 {p q : Rat} (hS : belows S.length S = true) (hfu : 1000000 < fu) (h : SmQ p) (h' : SmQ q) : callF Ir.P fu (n + 2) 42 [.d (ratD p), .d (ratD q)] S = .ok (.d (ratD (p + q))) S := by
  rw [← plus_rat]
  exact pl41 hS hfu h h'
theorem times42 {p q : Rat} (hS : belows S.length S = true) (hfu : 1000000 < fu) (h : SmQ p) (h' : SmQ q) : callF Ir.P fu (n + 2) 43 [.d (ratD p), .d (ratD q)] S = .ok (.d (ratD (p * q))) S := by
  rw [← times_rat]
  exact ti42 hS hfu h h'
end K07
/-! K18: numbers that stay small. -/
namespace K07
open RI EU
/-- over 42^e, at most c in size -/
def Bd (e c : Nat) (q : Rat) : Prop := ∃ n : Int, q = mkRat n (42 ^ e) ∧ n.natAbs ≤ c * 42 ^ e
theorem pos42 (e : Nat) : 42 ^ e ≠ 0 := by
  have : 0 < 42 ^ e := Nat.pow_pos (by decide)
  omega
theorem Bd.up {e c e' c' : Nat} {q : Rat} (h : Bd e c q) (h1 : e ≤ e') (h2 : c ≤ c') : Bd e' c' q := by
  obtain ⟨n, rfl, hn⟩ := h
  obtain ⟨d, rfl⟩ : ∃ d, e' = e + d := ⟨e' - e, by omega⟩
  refine ⟨n * (42 ^ d : Nat), ?_, ?_⟩
  · rw [Rat.mkRat_eq_iff (pos42 _) (pos42 _), Nat.pow_add, Int.natCast_mul]
    rw [Int.mul_comm ((42 ^ e : Nat) : Int), Int.mul_assoc]
  · rw [Int.natAbs_mul, Int.natAbs_natCast, Nat.pow_add, ← Nat.mul_assoc]
    exact Nat.mul_le_mul_right _ (Nat.le_trans hn (Nat.mul_le_mul_right _ h2))
theorem Bd.mul {e c e' c' : Nat} {p q : Rat} (h : Bd e c p) (h' : Bd e' c' q) : Bd (e + e') (c * c') (p * q) := by
  obtain ⟨n, rfl, hn⟩ := h
  obtain ⟨m, rfl, hm⟩ := h'
  refine ⟨n * m, ?_, ?_⟩
  · rw [Rat.mkRat_mul_mkRat, Nat.pow_add]
  · rw [Int.natAbs_mul, Nat.pow_add]
    have := Nat.mul_le_mul hn hm
    rw [Nat.mul_mul_mul_comm] at this
    exact this
theorem Bd.add {e c c' : Nat} {p q : Rat} (h : Bd e c p) (h' : Bd e c' q) : Bd e (c + c') (p + q) := by
  obtain ⟨n, rfl, hn⟩ := h
  obtain ⟨m, rfl, hm⟩ := h'
  refine ⟨n + m, ?_, ?_⟩
  · rw [Rat.mkRat_add_mkRat _ _ (pos42 e) (pos42 e), Rat.mkRat_eq_iff (Nat.mul_ne_zero (pos42 e) (pos42 e)) (pos42 e), ← Int.add_mul, Int.natCast_mul, Int.mul_assoc]
  · have := Int.natAbs_add_le n m
    rw [Nat.add_mul]
    omega
theorem Bd.sm {e c : Nat} {q : Rat} (h : Bd e c q) (hc : (c * 42 ^ e).log2 < 3000) (he : (42 ^ e).log2 < 3000) : SmQ q := by
  obtain ⟨n, e1, hn⟩ := h
  obtain ⟨m, m0, h1, h2⟩ := Rat.mkRat_num_den (n := n) (pos42 e) (show mkRat n (42 ^ e) = ⟨q.num, q.den, q.den_nz, q.reduced⟩ from e1.symm)
  have hd : q.den ≤ 42 ^ e := by rw [h2]; exact Nat.le_mul_of_pos_right _ (Nat.pos_of_ne_zero m0)
  have hn' : q.num.natAbs ≤ n.natAbs := by
    rw [h1, Int.natAbs_mul, Int.natAbs_natCast]
    exact Nat.le_mul_of_pos_right _ (Nat.pos_of_ne_zero m0)
  have hdz := q.den_nz
  refine ⟨by omega, ?_, ?_⟩
  · by_cases z : q.num.natAbs = 0
    · rw [z]; simp
    · exact Nat.lt_of_le_of_lt (log2_mono (Nat.le_trans hn' hn) z) hc
  · rw [Int.natAbs_natCast]
    exact Nat.lt_of_le_of_lt (log2_mono hd hdz) he
end K07
/-! SA: sums of rows; stairs; how many rows are free of those ahead of them. -/
namespace LinQ
/-- a row: what stands at each place -/
abbrev V := Nat → Rat
inductive Sp (K : V → Prop) : V → Prop
  | zero : Sp K fun _ => 0
  | add {k v : V} (c : Rat) : K k → Sp K v → Sp K fun i => v i + c * k i
variable {K K' : V → Prop} {u v w : V}
theorem Sp.of (h : K v) : Sp K v := by
  have := Sp.add 1 h (Sp.zero (K := K))
  have e : (fun i => (0 : Rat) + 1 * v i) = v := by funext i; rw [Rat.one_mul, Rat.zero_add]
  rw [e] at this
  exact this
theorem Sp.plus (h : Sp K v) (h' : Sp K w) : Sp K fun i => v i + w i := by
  induction h' with
  | zero =>
    have e : (fun i => v i + (0 : Rat)) = v := by funext i; rw [Rat.add_zero]
    rw [e]; exact h
  | add c hk _ ih =>
    have := Sp.add c hk ih
    simp only [Rat.add_assoc] at this
    exact this
theorem Sp.smul (c : Rat) (h : Sp K v) : Sp K fun i => c * v i := by
  induction h with
  | zero =>
    have e : (fun _ : Nat => c * (0 : Rat)) = fun _ => 0 := by funext i; rw [Rat.mul_zero]
    rw [e]; exact .zero
  | add d hk _ ih =>
    have := Sp.add (c * d) hk ih
    simp only [Rat.mul_add, ← Rat.mul_assoc]
    exact this
theorem Sp.trans (h : Sp K v) (hK : ∀ k, K k → Sp K' k) : Sp K' v := by
  induction h with
  | zero => exact .zero
  | add c hk _ ih => exact ih.plus ((hK _ hk).smul c)
theorem Sp.mono (h : Sp K v) (hK : ∀ k, K k → K' k) : Sp K' v := h.trans fun k hk => .of (hK k hk)
theorem Sp.at0 {p : Nat} (h : Sp K v) (hK : ∀ k, K k → k p = 0) : v p = 0 := by
  induction h with
  | zero => rfl
  | add c hk _ ih => simp only [ih, hK _ hk, Rat.mul_zero, Rat.add_zero]
/-- of one row and others -/
theorem Sp.split {r : V} (h : Sp (fun k => k = r ∨ K k) v) : ∃ c w, Sp K w ∧ v = fun i => c * r i + w i := by
  induction h with
  | zero => exact ⟨0, _, .zero, by funext i; rw [Rat.zero_mul, Rat.add_zero]⟩
  | add d hk _ ih =>
    obtain ⟨c, w, hw, rfl⟩ := ih
    rcases hk with rfl | hk
    · refine ⟨c + d, w, hw, ?_⟩
      funext i
      rw [Rat.add_mul, Rat.add_assoc, Rat.add_comm (w i), ← Rat.add_assoc]
    · exact ⟨c, _, .add d hk hw, by funext i; rw [Rat.add_assoc]⟩
def In (l : List V) : V → Prop := fun k => k ∈ l
/-- each row holds something at its place, those behind it nothing -/
inductive Stair : List (Nat × V) → Prop
  | nil : Stair []
  | cons {p : Nat} {r : V} {l : List (Nat × V)} : r p ≠ 0 → (∀ z ∈ l, z.2 p = 0) → Stair l → Stair ((p, r) :: l)
theorem Stair.zero : ∀ {l : List (Nat × V)}, Stair l → ∀ {v : V}, Sp (In (l.map (·.2))) v → (∀ z ∈ l, v z.1 = 0) → v = fun _ => 0
  | [], _, v, h, _ => by
    induction h with
    | zero => rfl
    | add c hk _ _ => simp [In] at hk
  | (p, r) :: l, .cons h1 h2 h3, v, h, hz => by
    have h' : Sp (fun k => k = r ∨ In (l.map (·.2)) k) v := h.mono fun k hk => by
      simp only [In, List.map_cons, List.mem_cons] at hk ⊢
      exact hk
    obtain ⟨c, w, hw, rfl⟩ := h'.split
    have hwp : w p = 0 := hw.at0 fun k hk => by
      obtain ⟨z, hz, rfl⟩ := List.mem_map.mp hk
      exact h2 z hz
    have hc : c = 0 := by
      have := hz (p, r) (by simp)
      simp only [hwp, Rat.add_zero] at this
      rcases Rat.mul_eq_zero.mp this with h | h
      · exact h
      · exact absurd h h1
    subst hc
    have e : (fun i => 0 * r i + w i) = w := by funext i; rw [Rat.zero_mul, Rat.zero_add]
    rw [e] at hz ⊢
    exact Stair.zero h3 hw fun z hzl => hz z (by simp [hzl])
/-- how many are free of those ahead of them -/
noncomputable def rk : List V → List V → Nat
  | _, [] => 0
  | seen, v :: vs => (if @decide (Sp (In seen) v) (Classical.propDecidable _) = true then 0 else 1) + rk (seen ++ [v]) vs
theorem rk_app : ∀ (a b seen : List V), rk seen (a ++ b) = rk seen a + rk (seen ++ a) b
  | [], b, seen => by simp [rk]
  | v :: a, b, seen => by
    simp only [List.cons_append, rk, rk_app a b (seen ++ [v]), List.append_assoc, List.nil_append, List.singleton_append]
    omega
theorem rk_in {seen : List V} {v : V} {vs : List V} (h : Sp (In seen) v) : rk seen (v :: vs) = rk (seen ++ [v]) vs := by simp [rk, h]
theorem rk_out {seen : List V} {v : V} {vs : List V} (h : ¬ Sp (In seen) v) : rk seen (v :: vs) = rk (seen ++ [v]) vs + 1 := by simp [rk, h]; omega
/-- two lots of rows tell the same sums -/
def Eqv (a b : List V) : Prop := (∀ v ∈ a, Sp (In b) v) ∧ ∀ v ∈ b, Sp (In a) v
theorem Eqv.iff {a b : List V} (h : Eqv a b) {v : V} : Sp (In a) v ↔ Sp (In b) v := ⟨fun x => x.trans h.1, fun x => x.trans h.2⟩
theorem Eqv.refl (a : List V) : Eqv a a := ⟨fun v hv => .of hv, fun v hv => .of hv⟩
/-- a row that is told already -/
theorem Eqv.skip {a b : List V} {v : V} (h : Eqv a b) (hv : Sp (In b) v) : Eqv a (b ++ [v]) := by
  refine ⟨fun u hu => (h.1 u hu).mono fun k hk => by simp only [In, List.mem_append] at *; exact .inl hk, fun u hu => ?_⟩
  rcases List.mem_append.mp hu with hu | hu
  · exact h.2 u hu
  · simp at hu
    subst hu
    exact hv.trans h.2
/-- what is left of a row: a multiple of it and a sum of the known ones -/
def Left (a : List V) (v l : V) : Prop := ∃ c w, c ≠ 0 ∧ Sp (In a) w ∧ l = fun i => c * v i + w i
theorem Left.sp {a : List V} {v l : V} (h : Left a v l) : Sp (In a) l ↔ Sp (In a) v := by
  obtain ⟨c, w, hc, hw, rfl⟩ := h
  constructor
  · intro hl
    have h1 : Sp (In a) fun i => (c * v i + w i) + (-1) * w i := hl.plus (hw.smul (-1))
    have h2 := h1.smul (1 / c)
    have e : (fun i => 1 / c * (c * v i + w i + -1 * w i)) = v := by
      funext i
      rw [Rat.add_assoc, Rat.neg_mul, Rat.one_mul, Rat.add_neg_cancel, Rat.add_zero, ← Rat.mul_assoc, Rat.div_mul_cancel hc, Rat.one_mul]
    rw [e] at h2
    exact h2
  · intro hv
    exact (hv.smul c).plus hw
theorem Left.eqv {a b : List V} {v l : V} (h : Left a v l) (he : Eqv a b) : Eqv (a ++ [l]) (b ++ [v]) := by
  have up : ∀ {a : List V} {x u : V}, Sp (In a) u → Sp (In (a ++ [x])) u := fun h => h.mono fun k hk => by simp only [In, List.mem_append] at *; exact .inl hk
  obtain ⟨c, w, hc, hw, rfl⟩ := h
  refine ⟨fun u hu => ?_, fun u hu => ?_⟩
  · rcases List.mem_append.mp hu with hu | hu
    · exact up (he.1 u hu)
    · simp at hu
      subst hu
      exact ((Sp.of (K := In (b ++ [v])) (v := v) (by simp [In])).smul c).plus (up (he.iff.mp hw))
  · rcases List.mem_append.mp hu with hu | hu
    · exact up (he.2 u hu)
    · simp at hu
      subst hu
      have hl : Sp (In (a ++ [fun i => c * u i + w i])) fun i => c * u i + w i := .of (by simp [In])
      exact (Left.sp (a := a ++ [fun i => c * u i + w i]) ⟨c, w, hc, up hw, rfl⟩).mp hl
theorem Left.self {a : List V} {v : V} : Left a v v := ⟨1, _, by decide, .zero, by funext i; rw [Rat.one_mul, Rat.add_zero]⟩
/-- a multiple more of a known row -/
theorem Left.step {a : List V} {v l k : V} {x y : Rat} (h : Left a v l) (hk : k ∈ a) (hx : x ≠ 0) : Left a v fun i => x * l i + y * k i := by
  obtain ⟨c, w, hc, hw, rfl⟩ := h
  refine ⟨x * c, fun i => x * w i + y * k i, fun e => ?_, .add y hk (hw.smul x), ?_⟩
  · rcases Rat.mul_eq_zero.mp e with e | e
    · exact hx e
    · exact hc e
  · funext i
    rw [Rat.mul_add, Rat.mul_assoc, Rat.add_assoc]
end LinQ
/-! SB: the law's taking away of rows, in plain Lean. -/
namespace K07
open RI EU LinQ
def vec (r : List Rat) : V := fun i => r.getD i 0
/-- less the multiple by which nothing is left -/
def shareQ (r k : Rat) : Rat := Rat.divInt (-r.num * k.den) (r.den * k.num)
theorem share_mul {r k : Rat} (hk : k ≠ 0) : shareQ r k * k = -r := by
  have hn : k.num ≠ 0 := fun e => hk (Rat.num_eq_zero.mp e)
  have hd : (k.den : Int) ≠ 0 := by have := k.den_nz; omega
  have hr : (r.den : Int) ≠ 0 := by have := r.den_nz; omega
  have h1 : (r.den : Int) * k.num ≠ 0 := Int.mul_ne_zero hr hn
  have e : shareQ r k * k = Rat.divInt (-r.num * k.den) (r.den * k.num) * Rat.divInt k.num k.den := by rw [Rat.num_divInt_den k]; rfl
  rw [e, Rat.divInt_mul_divInt]
  have e2 : -r = Rat.divInt (-r.num) r.den := by rw [← Rat.neg_divInt, Rat.num_divInt_den]
  rw [e2, Rat.divInt_eq_divInt_iff (Int.mul_ne_zero h1 hd) hr]
  simp only [Int.neg_mul, Int.mul_assoc, Int.mul_comm, Int.mul_left_comm]
def stepQ (r : List Rat) (z : Nat × List Rat) : List Rat := if r.getD z.1 0 = 0 then r else (r.zip z.2).map fun p => p.1 + shareQ (r.getD z.1 0) (z.2.getD z.1 0) * p.2
def leftQ (fs : List (Nat × List Rat)) (r : List Rat) : List Rat := fs.foldl stepQ r
def firstQ (r : List Rat) : Option Nat := ((List.range r.length).filter fun i => decide (r.getD i 0 ≠ 0)).head?
def addQ (fs : List (Nat × List Rat)) (r : List Rat) : List (Nat × List Rat) := match firstQ (leftQ fs r) with
  | some p => fs ++ [(p, leftQ fs r)]
  | none => fs
theorem getD_zip {a b : List Rat} {s : Rat} (hl : a.length = b.length) (i : Nat) : ((a.zip b).map fun p => p.1 + s * p.2).getD i 0 = a.getD i 0 + s * b.getD i 0 := by
  simp only [List.getD_eq_getElem?_getD, List.getElem?_map]
  by_cases hi : i < a.length
  · rw [List.getElem?_eq_getElem (l := a.zip b) (by simp; omega), List.getElem?_eq_getElem (l := a) hi, List.getElem?_eq_getElem (l := b) (by omega)]
    simp [List.getElem_zip]
  · rw [List.getElem?_eq_none (l := a.zip b) (by simp; omega), List.getElem?_eq_none (l := a) (by omega), List.getElem?_eq_none (l := b) (by omega)]
    simp [Rat.mul_zero, Rat.add_zero]
theorem vec_step {m : Nat} {r : List Rat} {z : Nat × List Rat} (hr : r.length = m) (hz : z.2.length = m) (h : r.getD z.1 0 ≠ 0) : vec (stepQ r z) = fun i => 1 * vec r i + shareQ (r.getD z.1 0) (z.2.getD z.1 0) * vec z.2 i := by
  funext i
  unfold stepQ vec
  rw [if_neg h, Rat.one_mul]
  exact getD_zip (by omega) i
theorem step_len {m : Nat} {r : List Rat} {z : Nat × List Rat} (hr : r.length = m) (hz : z.2.length = m) : (stepQ r z).length = m := by
  unfold stepQ
  split
  · exact hr
  · simp [hr, hz]
/-- known rows: each with its place, those behind holding nothing there -/
structure FsOk (m : Nat) (fs : List (Nat × List Rat)) : Prop where
  l : ∀ z ∈ fs, z.1 < m ∧ z.2.length = m
  nz : ∀ z ∈ fs, z.2.getD z.1 0 ≠ 0
  st : fs.Pairwise fun a b => b.2.getD a.1 0 = 0
theorem FsOk.nil {m : Nat} : FsOk m [] := ⟨by simp, by simp, .nil⟩
theorem FsOk.stair {m : Nat} {fs : List (Nat × List Rat)} (h : FsOk m fs) : Stair (fs.map fun z => (z.1, vec z.2)) := by
  have : ∀ fs : List (Nat × List Rat), (∀ z ∈ fs, z.2.getD z.1 0 ≠ 0) → fs.Pairwise (fun a b => b.2.getD a.1 0 = 0) → Stair (fs.map fun z => (z.1, vec z.2)) := by
    intro fs
    induction fs with
    | nil => intros; exact .nil
    | cons z fs ih =>
      intro h1 h2
      obtain ⟨h3, h4⟩ := List.pairwise_cons.mp h2
      refine .cons (h1 z (by simp)) (fun y hy => ?_) (ih (fun y hy => h1 y (by simp [hy])) h4)
      obtain ⟨w, hw, rfl⟩ := List.mem_map.mp hy
      exact h3 w hw
  exact this fs h.nz h.st
def vecs (fs : List (Nat × List Rat)) : List V := fs.map fun z => vec z.2
theorem vecs_stair (fs : List (Nat × List Rat)) : (fs.map fun z => (z.1, vec z.2)).map (·.2) = vecs fs := by rw [List.map_map]; rfl
theorem left_ok {m : Nat} {all : List V} : ∀ (fs done : List (Nat × List Rat)) (r : List Rat) (v : V), (∀ z ∈ done ++ fs, z.1 < m ∧ z.2.length = m ∧ z.2.getD z.1 0 ≠ 0 ∧ vec z.2 ∈ all) → (done ++ fs).Pairwise (fun a b => b.2.getD a.1 0 = 0) → r.length = m → Left all v (vec r) → (∀ z ∈ done, r.getD z.1 0 = 0) →
    (leftQ fs r).length = m ∧ Left all v (vec (leftQ fs r)) ∧ ∀ z ∈ done ++ fs, (leftQ fs r).getD z.1 0 = 0
  | [], done, r, v, _, _, hl, hL, hd => ⟨hl, hL, by simpa [leftQ] using hd⟩
  | z :: fs, done, r, v, hz, hp, hl, hL, hd => by
    have hzz := hz z (by simp)
    have hl' := step_len hl hzz.2.1
    have key : Left all v (vec (stepQ r z)) ∧ ∀ y ∈ done ++ [z], (stepQ r z).getD y.1 0 = 0 := by
      by_cases h0 : r.getD z.1 0 = 0
      · have e : stepQ r z = r := by unfold stepQ; rw [if_pos h0]
        rw [e]
        refine ⟨hL, fun y hy => ?_⟩
        rcases List.mem_append.mp hy with hy | hy
        · exact hd y hy
        · simp at hy; subst hy; exact h0
      · have e := vec_step hl hzz.2.1 h0
        refine ⟨by rw [e]; exact hL.step hzz.2.2.2 (by decide), fun y hy => ?_⟩
        have ey : (stepQ r z).getD y.1 0 = 1 * vec r y.1 + shareQ (r.getD z.1 0) (z.2.getD z.1 0) * vec z.2 y.1 := congrFun e y.1
        rw [ey]
        rcases List.mem_append.mp hy with hy | hy
        · have h1 : vec r y.1 = 0 := hd y hy
          have h2 : vec z.2 y.1 = 0 := (List.pairwise_append.mp hp).2.2 y hy z (by simp)
          rw [h1, h2, Rat.mul_zero, Rat.mul_zero, Rat.add_zero]
        · simp only [List.mem_singleton] at hy
          subst hy
          show 1 * r.getD y.1 0 + shareQ (r.getD y.1 0) (y.2.getD y.1 0) * y.2.getD y.1 0 = 0
          rw [share_mul hzz.2.2.1, Rat.one_mul, Rat.add_neg_cancel]
    have ih := left_ok fs (done ++ [z]) (stepQ r z) v (by simpa using hz) (by simpa using hp) hl' key.1 key.2
    simpa [leftQ] using ih
theorem first_none {r : List Rat} (h : firstQ r = none) : vec r = fun _ => 0 := by
  unfold firstQ at h
  rw [List.head?_eq_none_iff, List.filter_eq_nil_iff] at h
  funext i
  unfold vec
  by_cases hi : i < r.length
  · have := h i (List.mem_range.mpr hi)
    simpa using this
  · rw [List.getD_eq_getElem?_getD, List.getElem?_eq_none (by omega)]; rfl
theorem first_some {r : List Rat} {p : Nat} (h : firstQ r = some p) : p < r.length ∧ r.getD p 0 ≠ 0 ∧ ∀ j < p, r.getD j 0 = 0 := by
  unfold firstQ at h
  have hm := List.mem_of_mem_head? h
  obtain ⟨h1, h2⟩ := List.mem_filter.mp hm
  have h1 := List.mem_range.mp h1
  refine ⟨h1, by simpa using h2, fun j hj => ?_⟩
  by_cases hz : r.getD j 0 = 0
  · exact hz
  · exfalso
    have hmj : j ∈ (List.range r.length).filter fun i => decide (r.getD i 0 ≠ 0) := List.mem_filter.mpr ⟨List.mem_range.mpr (by omega), by simpa using hz⟩
    have hpw : ((List.range r.length).filter fun i => decide (r.getD i 0 ≠ 0)).Pairwise fun a b => a < b := by
      refine List.Pairwise.filter _ ?_
      exact List.pairwise_lt_range
    cases hf : (List.range r.length).filter fun i => decide (r.getD i 0 ≠ 0) with
    | nil => rw [hf] at hmj; simp at hmj
    | cons a l =>
      rw [hf] at h hmj hpw
      simp at h
      subst h
      rcases List.mem_cons.mp hmj with e | e
      · omega
      · have := (List.pairwise_cons.mp hpw).1 j e
        omega
/-- one row more -/
theorem add_ok {m : Nat} {fs : List (Nat × List Rat)} {seen : List V} {r : List Rat} (h : FsOk m fs) (he : Eqv (vecs fs) seen) (hr : r.length = m) : FsOk m (addQ fs r) ∧ Eqv (vecs (addQ fs r)) (seen ++ [vec r]) ∧ ∀ vs, rk seen (vec r :: vs) + fs.length = rk (seen ++ [vec r]) vs + (addQ fs r).length := by
  have hin : ∀ z ∈ [] ++ fs, z.1 < m ∧ z.2.length = m ∧ z.2.getD z.1 0 ≠ 0 ∧ vec z.2 ∈ vecs fs := fun z hz => by
    have hz : z ∈ fs := by simpa using hz
    exact ⟨(h.l z hz).1, (h.l z hz).2, h.nz z hz, List.mem_map.mpr ⟨z, hz, rfl⟩⟩
  obtain ⟨l1, l2, l3⟩ := left_ok (all := vecs fs) fs [] r (vec r) hin (by simpa using h.st) hr Left.self (by simp)
  have hsp : Sp (In (vecs fs)) (vec (leftQ fs r)) ↔ Sp (In seen) (vec r) := l2.sp.trans he.iff
  unfold addQ
  cases hf : firstQ (leftQ fs r) with
  | none =>
    have h0 := first_none hf
    have hv : Sp (In seen) (vec r) := hsp.mp (by rw [h0]; exact .zero)
    exact ⟨h, he.skip hv, fun vs => by rw [rk_in hv]⟩
  | some p =>
    obtain ⟨p1, p2, p3⟩ := first_some hf
    have hv : ¬ Sp (In seen) (vec r) := fun hv => by
      have := Stair.zero h.stair (v := vec (leftQ fs r)) (by rw [vecs_stair]; exact hsp.mpr hv) (fun z hz => by
        obtain ⟨w, hw, rfl⟩ := List.mem_map.mp hz
        exact l3 w (by simpa using hw))
      exact p2 (congrFun this p)
    refine ⟨⟨fun z hz => ?_, fun z hz => ?_, ?_⟩, ?_, fun vs => by rw [rk_out hv]; simp; omega⟩
    · rcases List.mem_append.mp hz with hz | hz
      · exact h.l z hz
      · simp at hz; subst hz; exact ⟨by omega, l1⟩
    · rcases List.mem_append.mp hz with hz | hz
      · exact h.nz z hz
      · simp at hz; subst hz; exact p2
    · refine List.pairwise_append.mpr ⟨h.st, by simp, fun a ha b hb => ?_⟩
      simp at hb
      subst hb
      exact l3 a (by simpa using ha)
    · have := l2.eqv he
      simpa [vecs] using this
theorem steps_ok {m : Nat} : ∀ (rows : List (List Rat)) (fs : List (Nat × List Rat)) (seen : List V), FsOk m fs → Eqv (vecs fs) seen → (∀ r ∈ rows, r.length = m) → (rows.foldl addQ fs).length = fs.length + rk seen (rows.map vec)
  | [], fs, seen, _, _, _ => by simp [rk]
  | r :: rows, fs, seen, h, he, hr => by
    obtain ⟨h1, h2, h3⟩ := add_ok h he (hr r (by simp))
    have ih := steps_ok rows (addQ fs r) (seen ++ [vec r]) h1 h2 fun y hy => hr y (by simp [hy])
    have := h3 (rows.map vec)
    rw [List.foldl_cons, ih, List.map_cons]
    omega
/-- the law's rank -/
theorem rank_ok {m : Nat} {rows : List (List Rat)} (hr : ∀ r ∈ rows, r.length = m) : (rows.foldl addQ []).length = rk [] (rows.map vec) := by
  have := steps_ok rows [] [] FsOk.nil (Eqv.refl []) hr
  simpa using this
end K07
/-! SC: the law's numbers stay small; the law's taking away of rows. -/
namespace K07
open RI EU LinQ
variable {fu n m t : Nat} {S : Store}
def eB (t : Nat) : Nat := 14 * 2 ^ t
theorem eB_pos (t : Nat) : 14 ≤ eB t := by
  have : 0 < 2 ^ t := Nat.pow_pos (by decide)
  unfold eB
  omega
theorem eB_succ (t : Nat) : eB (t + 1) = 2 * eB t := by unfold eB; rw [Nat.pow_succ]; omega
theorem eB_mono {s t : Nat} (h : s ≤ t) : eB s ≤ eB t := Nat.mul_le_mul_left _ (Nat.pow_le_pow_right (by decide) h)
theorem eB_6 (h : t ≤ 6) : eB t ≤ 896 := eB_mono h
theorem log_lt {a e : Nat} (h : a < 2 ^ e) (he : 0 < e) : a.log2 < e := by
  by_cases z : a = 0
  · subst z; simpa using he
  · exact (Nat.log2_lt z).mpr h
theorem mk_sm {k : Int} {D e : Nat} (h0 : 0 < D) (hD : D < 2 ^ e) (hk : k.natAbs < 2 ^ e) (he : e ≤ 2900) (he0 : 0 < e) : SmQ (mkRat k D) := by
  obtain ⟨c, c0, h1, h2⟩ := Rat.mkRat_num_den (n := k) (d := D) (by omega) (show mkRat k D = ⟨(mkRat k D).num, (mkRat k D).den, (mkRat k D).den_nz, (mkRat k D).reduced⟩ from rfl)
  generalize mkRat k D = q at *
  have hd : q.den ≤ D := by rw [h2]; exact Nat.le_mul_of_pos_right _ (Nat.pos_of_ne_zero c0)
  have hn : q.num.natAbs ≤ k.natAbs := by
    rw [h1, Int.natAbs_mul, Int.natAbs_natCast]
    exact Nat.le_mul_of_pos_right _ (Nat.pos_of_ne_zero c0)
  have hdz := q.den_nz
  have g1 := log_lt (a := q.num.natAbs) (e := e) (by omega) he0
  have g2 := log_lt (a := q.den) (e := e) (by omega) he0
  exact ⟨by omega, by omega, by rw [Int.natAbs_natCast]; omega⟩
/-- over one number, small -/
def Vc (t : Nat) (r : List Rat) : Prop := ∃ D : Nat, 0 < D ∧ D < 2 ^ eB t ∧ ∀ q ∈ r, ∃ k : Int, q = mkRat k D ∧ k.natAbs < 2 ^ (eB t - 1)
theorem Vc.up {s t : Nat} {r : List Rat} (h : Vc s r) (hs : s ≤ t) : Vc t r := by
  obtain ⟨D, h1, h2, h3⟩ := h
  have hm := eB_mono hs
  exact ⟨D, h1, Nat.lt_of_lt_of_le h2 (Nat.pow_le_pow_right (by decide) hm), fun q hq => by
    obtain ⟨k, e, hk⟩ := h3 q hq
    exact ⟨k, e, Nat.lt_of_lt_of_le hk (Nat.pow_le_pow_right (by decide) (by omega))⟩⟩
theorem Vc.sm {r : List Rat} (h : Vc t r) (ht : t ≤ 6) : ∀ q ∈ r, SmQ q := fun q hq => by
  obtain ⟨D, h1, h2, h3⟩ := h
  obtain ⟨k, rfl, hk⟩ := h3 q hq
  have := eB_6 ht
  have := eB_pos t
  exact mk_sm h1 h2 (Nat.lt_of_lt_of_le hk (Nat.pow_le_pow_right (by decide) (by omega))) (by omega) (by omega)
theorem mk_same {a b : Int} {D : Nat} (h : D ≠ 0) : mkRat a D + mkRat b D = mkRat (a + b) D := by
  rw [Rat.mkRat_add_mkRat _ _ h h, Rat.mkRat_eq_iff (Nat.mul_ne_zero h h) h, ← Int.add_mul, Int.natCast_mul, Int.mul_assoc]
theorem mk_up {a : Int} {D c : Nat} (h : D ≠ 0) (hc : c ≠ 0) : mkRat a D = mkRat (a * c) (D * c) := by
  rw [Rat.mkRat_eq_iff h (Nat.mul_ne_zero h hc), Int.natCast_mul]
  rw [Int.mul_assoc, Int.mul_comm (c : Int)]
theorem share_mk {R K : Int} {Dr Dk : Nat} (hr : Dr ≠ 0) (hk : Dk ≠ 0) (hK : K ≠ 0) : shareQ (mkRat R Dr) (mkRat K Dk) = mkRat (-(R * K.sign) * Dk) (Dr * K.natAbs) := by
  have hKn : K.natAbs ≠ 0 := by omega
  have hk0 : mkRat K Dk ≠ 0 := fun e => by
    rw [Rat.mkRat_eq_zero hk] at e
    exact hK e
  have h1 := share_mul (r := mkRat R Dr) hk0
  have h2 : mkRat (-(R * K.sign) * Dk) (Dr * K.natAbs) * mkRat K Dk = -(mkRat R Dr) := by
    rw [Rat.mkRat_mul_mkRat, Rat.neg_mkRat, Rat.mkRat_eq_iff (Nat.mul_ne_zero (Nat.mul_ne_zero hr hKn) hk) hr]
    have hs : K.sign * K = (K.natAbs : Int) := by rw [Int.mul_comm]; exact Int.mul_sign_self K
    have : -(R * K.sign) * (Dk : Int) * K * (Dr : Int) = -R * (Dk * (K.sign * K) * Dr) := by
      simp only [Int.neg_mul, Int.mul_neg, Int.mul_assoc, Int.mul_comm, Int.mul_left_comm]
    rw [this, hs]
    simp only [Int.natCast_mul, Int.mul_assoc, Int.mul_comm, Int.mul_left_comm]
  have h3 : shareQ (mkRat R Dr) (mkRat K Dk) * mkRat K Dk = mkRat (-(R * K.sign) * Dk) (Dr * K.natAbs) * mkRat K Dk := by rw [h1, h2]
  have h4 := congrArg (· * (mkRat K Dk)⁻¹) h3
  simp only [Rat.mul_assoc, Rat.mul_inv_cancel _ hk0, Rat.mul_one] at h4
  exact h4
theorem sign_le (K : Int) (R : Int) : (R * K.sign).natAbs ≤ R.natAbs := by
  rw [Int.natAbs_mul]
  have : K.sign.natAbs ≤ 1 := by
    rcases Int.lt_trichotomy K 0 with h | h | h
    · rw [Int.sign_eq_neg_one_of_neg h]; decide
    · subst h; decide
    · rw [Int.sign_eq_one_of_pos h]; decide
  calc R.natAbs * K.sign.natAbs ≤ R.natAbs * 1 := Nat.mul_le_mul_left _ this
    _ = R.natAbs := Nat.mul_one _
structure StepB (t : Nat) (r : List Rat) (z : Nat × List Rat) : Prop where
  s : SmQ (shareQ (r.getD z.1 0) (z.2.getD z.1 0))
  k : ∀ q ∈ z.2, SmQ (shareQ (r.getD z.1 0) (z.2.getD z.1 0) * q)
  v : Vc (t + 1) (stepQ r z)
theorem getD_mem {r : List Rat} {i : Nat} (h : i < r.length) : r.getD i 0 ∈ r := by
  rw [List.getD_eq_getElem?_getD, List.getElem?_eq_getElem h]
  exact List.getElem_mem h
theorem step_b {r : List Rat} {z : Nat × List Rat} (ht : t ≤ 5) (hr : r.length = m) (hz : z.1 < m ∧ z.2.length = m) (hnz : z.2.getD z.1 0 ≠ 0) (h1 : Vc t r) (h2 : Vc t z.2) (h0 : r.getD z.1 0 ≠ 0) : StepB t r z := by
  have hB := eB_pos t
  have hB6 := eB_6 (t := t + 1) (by omega)
  rw [eB_succ] at hB6
  obtain ⟨Dr, a1, a2, a3⟩ := h1
  obtain ⟨Dk, b1, b2, b3⟩ := h2
  obtain ⟨R, eR, hR⟩ := a3 _ (getD_mem (r := r) (i := z.1) (by omega))
  obtain ⟨K, eK, hK⟩ := b3 _ (getD_mem (r := z.2) (i := z.1) (by omega))
  have hK0 : K ≠ 0 := fun e => hnz (by rw [eK, e]; exact Rat.zero_mkRat _)
  have hKn : K.natAbs ≠ 0 := by omega
  have hs : shareQ (r.getD z.1 0) (z.2.getD z.1 0) = mkRat (-(R * K.sign) * Dk) (Dr * K.natAbs) := by rw [eR, eK]; exact share_mk (by omega) (by omega) hK0
  have hp : ∀ a b : Nat, 2 ^ a * 2 ^ b = 2 ^ (a + b) := fun a b => (Nat.pow_add 2 a b).symm
  have hD : Dr * K.natAbs < 2 ^ (2 * eB t) := by
    have := Nat.mul_lt_mul'' a2 hK
    rw [hp] at this
    exact Nat.lt_of_lt_of_le this (Nat.pow_le_pow_right (by decide) (by omega))
  have hD0 : 0 < Dr * K.natAbs := Nat.mul_pos a1 (by omega)
  have hRs := sign_le K R
  have hkj : ∀ q ∈ z.2, ∃ j : Int, shareQ (r.getD z.1 0) (z.2.getD z.1 0) * q = mkRat (-(R * K.sign) * j) (Dr * K.natAbs) ∧ j.natAbs < 2 ^ (eB t - 1) := fun q hq => by
    obtain ⟨j, ej, hj⟩ := b3 q hq
    refine ⟨j, ?_, hj⟩
    rw [hs, ej, Rat.mkRat_mul_mkRat, Rat.mkRat_eq_iff (Nat.mul_ne_zero (by omega) (by omega)) (by omega)]
    simp only [Int.natCast_mul, Int.neg_mul, Int.mul_neg, Int.mul_assoc, Int.mul_comm, Int.mul_left_comm]
  have hmulB : ∀ j : Int, j.natAbs < 2 ^ (eB t - 1) → (-(R * K.sign) * j).natAbs < 2 ^ (2 * eB t - 2) := fun j hj => by
    rw [Int.natAbs_mul, Int.natAbs_neg]
    have := Nat.mul_lt_mul'' (Nat.lt_of_le_of_lt hRs hR) hj
    rw [hp] at this
    exact Nat.lt_of_lt_of_le this (Nat.pow_le_pow_right (by decide) (by omega))
  refine ⟨?_, fun q hq => ?_, Dr * K.natAbs, hD0, by rw [eB_succ]; exact hD, fun q hq => ?_⟩
  · rw [hs]
    refine mk_sm (e := 2 * eB t) hD0 hD ?_ (by omega) (by omega)
    rw [Int.natAbs_mul, Int.natAbs_neg, Int.natAbs_natCast]
    have := Nat.mul_lt_mul'' (Nat.lt_of_le_of_lt hRs hR) b2
    rw [hp] at this
    exact Nat.lt_of_lt_of_le this (Nat.pow_le_pow_right (by decide) (by omega))
  · obtain ⟨j, e, hj⟩ := hkj q hq
    rw [e]
    exact mk_sm (e := 2 * eB t) hD0 hD (Nat.lt_of_lt_of_le (hmulB j hj) (Nat.pow_le_pow_right (by decide) (by omega))) (by omega) (by omega)
  · unfold stepQ at hq
    rw [if_neg h0] at hq
    obtain ⟨p, hpz, rfl⟩ := List.mem_map.mp hq
    obtain ⟨j, e, hj⟩ := hkj p.2 (List.of_mem_zip hpz).2
    obtain ⟨i, ei, hi⟩ := a3 p.1 (List.of_mem_zip hpz).1
    refine ⟨i * K.natAbs + -(R * K.sign) * j, ?_, ?_⟩
    · rw [e, ei, mk_up (a := i) (by omega) hKn, mk_same (by omega)]
    · have g1 : (i * (K.natAbs : Int)).natAbs < 2 ^ (2 * eB t - 2) := by
        rw [Int.natAbs_mul, Int.natAbs_natCast]
        have := Nat.mul_lt_mul'' hi hK
        rw [hp] at this
        exact Nat.lt_of_lt_of_le this (Nat.pow_le_pow_right (by decide) (by omega))
      have g2 := hmulB j hj
      have g3 := Int.natAbs_add_le (i * (K.natAbs : Int)) (-(R * K.sign) * j)
      have g4 : 2 ^ (eB (t + 1) - 1) = 2 ^ (2 * eB t - 2) + 2 ^ (2 * eB t - 2) := by
        rw [eB_succ, show 2 * eB t - 1 = (2 * eB t - 2) + 1 by omega, Nat.pow_succ]
        omega
      omega
end K07
/-! SD: the law's taking away of rows, walked. -/
namespace K07
open RI EU LinQ
variable {fu n m t : Nat} {S : Store}
/-- a loop over a list's cell that nobody writes, with a fold -/
theorem Tot.locR {α β : Type} {set : W → Env → Store → Res Env} {body : Env → Store → Res Flow} {l : Nat} {S : Store} (f : α → D) (step : β → α → β) (I : List α → β → Env → Prop) {all : List α} (hl : S[l]? = some (.lst (all.map f)))
    (hs : ∀ z zs b η, I (z :: zs) b η → Tot ((set (.d (f z)) η S).bnd fun η1 S1 => body η1 S1) fun fl S' => S' = S ∧ ∃ η', fl = .nx η' ∧ I zs (step b z) η') :
    ∀ (zs : List α) (i : Nat) (b : β) (η : Env), all.drop i = zs → i + zs.length = all.length → I zs b η → Tot (forLoc set body l zs.length i η S) fun fl S' => S' = S ∧ ∃ η', fl = .nx η' ∧ I [] (zs.foldl step b) η'
  | [], i, b, η, hd, hi, h => by
    rw [List.length_nil, forLoc]
    try simp only [bind_bnd]
    simp only [hl, List.length_map]
    rw [if_pos (by simp at hi; omega), Tot_ok]
    exact ⟨rfl, η, rfl, h⟩
  | z :: zs, i, b, η, hd, hi, h => by
    have hlt : i < all.length := by simp at hi; omega
    have hz : all[i] = z ∧ all.drop (i + 1) = zs := by
      rw [List.drop_eq_getElem_cons hlt] at hd
      simp only [List.cons.injEq] at hd
      exact hd
    rw [List.length_cons, forLoc]
    try simp only [bind_bnd]
    have hg : (all.map f)[i]? = some (f z) := by rw [List.getElem?_map, List.getElem?_eq_getElem hlt, hz.1]; rfl
    simp only [hl, hg]
    have h1 := hs z zs b η h
    rw [Tot_noExc_bind]
    cases e : set (.d (f z)) η S with
    | ok η1 S1 =>
      rw [e] at h1
      rw [bnd_ok] at h1 ⊢
      refine h1.seq ?_
      rintro _ S2 ⟨rfl, η', rfl, hi'⟩
      exact Tot.locR f step I hl hs zs (i + 1) (step b z) η' hz.2 (by simp at hi; omega) hi'
    | exc _ _ _ => rw [e] at h1; exact h1.h.elim
    | stk => rw [e] at h1; exact h1.h.elim
theorem low_neg {a b : Int} (hS : belows S.length S = true) (hfu : 1000000 < fu) (h0 : b < 0) (hb : b.natAbs.log2 < 8000) : callF Ir.P fu (n + 1) 41 [.d (.int a), .d (.int b)] S = .ok (.d (.tup [.int (a.fdiv (-(Int.gcd a b : Int))), .int (b.fdiv (-(Int.gcd a b : Int)))])) S := by
  refine runD (fd := Ir.f41) rfl rfl rfl hS ?_
  generalize callF Ir.P fu n = cf
  have g0 : 0 < Int.gcd a b := Int.gcd_pos_of_ne_zero_right _ (by omega)
  have gle : Int.gcd a b ≤ b.natAbs := Nat.le_of_dvd (by omega) (Int.natAbs_dvd_natAbs.mpr (Int.gcd_dvd_right a b) |> fun h => by simpa using h)
  have hf : fdB (-(Int.gcd a b : Int)) = true := by
    have := log2_mono gle (by omega)
    simp only [fdB, decide_eq_true_eq]
    refine .inr ⟨by omega, ?_⟩
    rw [Int.natAbs_neg, Int.natAbs_natCast]
    omega
  have hlg : eu a.natAbs b.natAbs < fu := Nat.lt_of_le_of_lt eu_log (by omega)
  suffices h : Tot (execSs ⟨cf, Ir.P, fu⟩ Ir.f41.body (startE Ir.f41.N.length [.d (.int a), .d (.int b)]) S) fun f S' => f = .ret (.d (.tup [.int (a.fdiv (-(Int.gcd a b : Int))), .int (b.fdiv (-(Int.gcd a b : Int)))])) ∧ S' = S by
    obtain ⟨f, S', e, rfl, rfl⟩ := h.ex
    exact e
  have h1 : ¬ 0 < b := by omega
  simp [Ir.f41, startE, getV, setNs, abs_nat]
  refine Tot.seq (P := fun f S' => S' = S ∧ f = Flow.nx [some (.d (.int a)), some (.d (.int b)), some (.d (.int (Int.gcd a b))), some (.d (.int 0))]) (Tot.whl (fun m η S' => S' = S ∧ ∃ x y : Nat, η = [some (.d (.int a)), some (.d (.int b)), some (.d (.int x)), some (.d (.int y))] ∧ Nat.gcd x y = Int.gcd a b ∧ m = eu x y) ?_ _ (eu a.natAbs b.natAbs) _ _ hlg ⟨rfl, _, _, rfl, rfl, rfl⟩) ?_
  · rintro m η S' ⟨rfl, x, y, rfl, hg, hm⟩
    subst hm
    by_cases hy : y = 0
    · subst hy
      simp [getV]
      rw [← hg]; simp
    · have h2 : ¬ (y : Int) = 0 := by omega
      have h1 : 0 < y := by omega
      simp [getV, h2, h1, setNs, hy]
      refine ⟨eu y (x % y), by rw [eu_pos hy]; omega, y, x % y, ⟨rfl, (Int.ofNat_fmod x y).symm⟩, ?_, rfl⟩
      rw [← hg, Nat.gcd_comm y, ← Nat.gcd_rec, Nat.gcd_comm]
  · rintro f S' ⟨rfl, rfl⟩
    simp [getV, h1, hf]
/-- a top divided by a bottom that is not 0 -/
theorem low41 {a b : Int} (hS : belows S.length S = true) (hfu : 1000000 < fu) (h0 : b ≠ 0) (hb : b.natAbs.log2 < 8000) : callF Ir.P fu (n + 1) 41 [.d (.int a), .d (.int b)] S = .ok (.d (ratD (Rat.divInt a b))) S := by
  rcases Int.lt_or_gt_of_ne h0 with h | h
  · rw [low_neg hS hfu h hb]
    obtain ⟨d, hd⟩ : ∃ d : Nat, -b = d := ⟨(-b).toNat, by omega⟩
    have e1 : ∀ x : Int, x.fdiv (-(Int.gcd a b : Int)) = (-x).fdiv (Int.gcd (-a) (-b) : Int) := fun x => by
      rw [Int.gcd_neg, Int.neg_gcd, ← Int.neg_fdiv_neg (-x)]
      simp
    have e2 : Rat.divInt a b = mkRat (-a) d := by
      rw [← Rat.divInt_ofNat, Rat.divInt_eq_divInt_iff h0 (by omega), ← hd]
      simp [Int.neg_mul, Int.mul_neg]
    rw [e1, e1, e2, ← lowD_rat _ (by omega), ← hd]
    rfl
  · obtain ⟨d, rfl⟩ : ∃ d : Nat, b = d := ⟨b.toNat, by omega⟩
    rw [low40 hS hfu h hb, lowD_rat _ (by omega), Rat.divInt_ofNat]
def fsD (z : Nat × List Rat) : D := .tup [.int (z.1 : Nat), .lst (z.2.map ratD)]
/-- the numbers of the known rows are small -/
def FsV (fs : List (Nat × List Rat)) : Prop := ∀ i z, fs[i]? = some z → Vc i z.2
theorem at_r {s : List Rat} {c : Nat} (h : c < s.length) : L2.atI (s.map ratD) (c : Int) = some (ratD (s.getD c 0)) := by
  refine atJ_map ratD ?_
  rw [List.getD_eq_getElem?_getD, List.getElem?_eq_getElem h]
  rfl
theorem num0 (q : Rat) : q.num = 0 ↔ q = 0 := Rat.num_eq_zero
theorem fs_few (h : FsOk m fs) : fs.length ≤ m := by
  have key : ∀ (fs : List (Nat × List Rat)), (∀ z ∈ fs, z.2.getD z.1 0 ≠ 0) → fs.Pairwise (fun a b => b.2.getD a.1 0 = 0) → (fs.map (·.1)).Nodup := by
    intro fs
    induction fs with
    | nil => intros; exact .nil
    | cons z fs ih =>
      intro h1 h2
      obtain ⟨h3, h4⟩ := List.pairwise_cons.mp h2
      refine List.nodup_cons.mpr ⟨fun hm => ?_, ih (fun y hy => h1 y (by simp [hy])) h4⟩
      obtain ⟨w, hw, e⟩ := List.mem_map.mp hm
      have := h3 w hw
      simp only at e
      rw [← e] at this
      exact h1 w (by simp [hw]) this
  have hn := key fs h.nz h.st
  have sub : ∀ (a b : List Nat), a.Nodup → (∀ x ∈ a, x ∈ b) → a.length ≤ b.length := by
    intro a
    induction a with
    | nil => intros; simp
    | cons x a ih =>
      intro b h hs
      obtain ⟨h1, h2⟩ := List.nodup_cons.mp h
      have hx := hs x (by simp)
      have := ih (b.erase x) h2 fun y hy => (List.mem_erase_of_ne (fun e : y = x => by subst e; exact h1 hy)).mpr (hs y (by simp [hy]))
      rw [List.length_erase_of_mem hx] at this
      have : 0 < b.length := List.length_pos_of_mem hx
      simp
      omega
  have := sub (fs.map (·.1)) (List.range m) hn fun x hx => by
    obtain ⟨z, hz, rfl⟩ := List.mem_map.mp hx
    exact List.mem_range.mpr (h.l z hz).1
  simpa using this
/-- what the law's reckoning calls -/
structure Num (cf : Nat → List W → Store → Res W) (S : Store) : Prop where
  low : ∀ {a b : Int}, b ≠ 0 → b.natAbs.log2 < 8000 → cf 41 [.d (.int a), .d (.int b)] S = .ok (.d (ratD (Rat.divInt a b))) S
  add : ∀ {p q : Rat}, SmQ p → SmQ q → cf 42 [.d (ratD p), .d (ratD q)] S = .ok (.d (ratD (p + q))) S
  mul : ∀ {p q : Rat}, SmQ p → SmQ q → cf 43 [.d (ratD p), .d (ratD q)] S = .ok (.d (ratD (p * q))) S
theorem num_ok (hS : belows S.length S = true) (hfu : 1000000 < fu) : Num (callF Ir.P fu (n + 2)) S := ⟨fun h0 hb => low41 hS hfu h0 hb, fun h h' => plus41 hS hfu h h', fun h h' => times42 hS hfu h h'⟩
theorem step45 {cf : Nat → List W → Store → Res W} (N : Num cf S) {fl : W} {r : List Rat} {z : Nat × List Rat} {w2 w3 w4 : Option W} (ht : t ≤ 5) (hm : m ≤ 100) (hr : r.length = m) (hz : z.1 < m ∧ z.2.length = m) (hnz : z.2.getD z.1 0 ≠ 0) (h1 : Vc t r) (h2 : Vc t z.2) :
    Tot (execSs ⟨cf, Ir.P, fu⟩ Ir.f45b0 [some fl, some (.d (.lst (r.map ratD))), some (.d (.int z.1)), some (.d (.lst (z.2.map ratD))), w4, none, none] S) fun f S' => S' = S ∧ ∃ η', f = .nx η' ∧ ∃ w4, η' = [some fl, some (.d (.lst ((stepQ r z).map ratD))), some (.d (.int z.1)), some (.d (.lst (z.2.map ratD))), w4, none, none] := by
  have ar := at_r (s := r) (c := z.1) (by omega)
  have az := at_r (s := z.2) (c := z.1) (by omega)
  have a0 : ∀ q : Rat, L2.atI [D.int q.num, D.int (q.den : Nat)] 0 = some (.int q.num) := fun q => rfl
  have a1 : ∀ q : Rat, L2.atI [D.int q.num, D.int (q.den : Nat)] 1 = some (.int (q.den : Nat)) := fun q => rfl
  by_cases h0 : r.getD z.1 0 = 0
  · have hs : stepQ r z = r := by unfold stepQ; rw [if_pos h0]
    rw [hs]
    rw [h0] at ar
    have : (0 : Rat).num = 0 := rfl
    simp [getV, ar, ratD, a0, this]
  · have hs : stepQ r z = (r.zip z.2).map fun p => p.1 + shareQ (r.getD z.1 0) (z.2.getD z.1 0) * p.2 := by unfold stepQ; rw [if_neg h0]
    have B := step_b ht hr hz hnz h1 h2 h0
    have hrs := h1.sm (by omega)
    have hzs := h2.sm (by omega)
    have hr0 := hrs _ (getD_mem (r := r) (i := z.1) (by omega))
    have hz0 := hzs _ (getD_mem (r := z.2) (i := z.1) (by omega))
    have hsh : shareQ (r.getD z.1 0) (z.2.getD z.1 0) = Rat.divInt (-(r.getD z.1 0).num * (z.2.getD z.1 0).den) ((r.getD z.1 0).den * (z.2.getD z.1 0).num) := rfl
    have hn0 : ¬ (r.getD z.1 0).num = 0 := fun e => h0 ((num0 _).mp e)
    have hk0 : (z.2.getD z.1 0).num ≠ 0 := fun e => hnz ((num0 _).mp e)
    have hbot : ((r.getD z.1 0).den : Int) * (z.2.getD z.1 0).num ≠ 0 := Int.mul_ne_zero (by have := (r.getD z.1 0).den_nz; omega) hk0
    have hlog : (((r.getD z.1 0).den : Int) * (z.2.getD z.1 0).num).natAbs.log2 < 8000 := by
      rw [Int.natAbs_mul]
      have := log2_mul (a := ((r.getD z.1 0).den : Int).natAbs) (b := (z.2.getD z.1 0).num.natAbs)
      have := hr0.b
      have := hz0.a
      omega
    have el := N.low (a := -(r.getD z.1 0).num * (z.2.getD z.1 0).den) hbot hlog
    rw [← hsh] at el
    have bt1 : bitsOk (-(r.getD z.1 0).num) ((z.2.getD z.1 0).den : Int) = true := bits_sm (by rw [Int.natAbs_neg]; exact hr0.a) hz0.b
    have bt2 : bitsOk ((r.getD z.1 0).den : Int) (z.2.getD z.1 0).num = true := bits_sm hr0.b hz0.a
    have key := lcMap2 (C := ⟨cf, Ir.P, fu⟩) (i := 5) (j := 6) (e := .call 42 (.cons (.var 5) (.cons (.call 43 (.cons (.var 4) (.cons (.var 6) .nil))) .nil))) (η := [some fl, some (.d (.lst (r.map ratD))), some (.d (.int z.1)), some (.d (.lst (z.2.map ratD))), some (.d (ratD (shareQ (r.getD z.1 0) (z.2.getD z.1 0)))), none, none]) (S := S) (fun p : Rat × Rat => ratD p.1) (fun p => ratD p.2) (fun p => ratD (p.1 + shareQ (r.getD z.1 0) (z.2.getD z.1 0) * p.2)) (zs := r.zip z.2) (by simp; unfold line; omega) (by simp) (by simp) (fun p hp => by
      have g1 := hrs p.1 (List.of_mem_zip hp).1
      have g2 := hzs p.2 (List.of_mem_zip hp).2
      have e1 := N.mul B.s g2
      have e2 := N.add g1 (B.k p.2 (List.of_mem_zip hp).2)
      simp only [List.getD_eq_getElem?_getD] at e1 e2 ⊢
      simp [getV, e1, e2])
    have hzip : (((r.map ratD).zip (z.2.map ratD)).map fun p => D.tup [p.1, p.2]) = (r.zip z.2).map fun p => .tup [ratD p.1, ratD p.2] := by
      rw [List.zip_map, List.map_map]
      rfl
    rw [hs]
    generalize shareQ (r.getD z.1 0) (z.2.getD z.1 0) = sh at *
    generalize r.getD z.1 0 = q at *
    generalize z.2.getD z.1 0 = k at *
    have el' : cf 41 [.d (.int (-(q.num * k.den))), .d (.int (q.den * k.num))] S = .ok (.d (ratD sh)) S := by rw [← Int.neg_mul]; exact el
    simp [-List.map_map, -List.zip_map, getV, ar, az, ratD, a0, a1, hn0, bt1, bt2]
    simp only [ratD] at el key hzip
    simp [-List.map_map, -List.zip_map, el, getV, wipeE, hzip, lcSrc] at key ⊢
    rw [key]
    simp
    exact fun _ _ _ => rfl
/-- the law's taking away of known rows -/
theorem left45 {cf : Nat → List W → Store → Res W} (N : Num cf S) {l : Nat} {fs : List (Nat × List Rat)} {r : List Rat} {rD : D} (hrD : rD = .tup (r.map ratD) ∨ rD = .lst (r.map ratD)) (hm : m ≤ 5) (hl : S[l]? = some (.lst (fs.map fsD))) (hF : FsOk m fs) (hV : FsV fs) (hr : r.length = m) (h0 : Vc 0 r) :
    Tot (execSs ⟨cf, Ir.P, fu⟩ Ir.f45.body (startE Ir.f45.N.length [.loc l, .d rD]) S) (fun f S' => f = .ret (.d (.lst ((leftQ fs r).map ratD))) ∧ S' = S) := by
  have hfew := fs_few hF
  have L := Tot.locR (set := setT ⟨cf, Ir.P, fu⟩ (.tup (.cons (.nm 2) (.cons (.nm 3) .nil)))) (body := execSs ⟨cf, Ir.P, fu⟩ Ir.f45b0) fsD stepQ (fun zs r η => (∃ w2 w3 w4, η = [some (.loc l), some (.d (.lst (r.map ratD))), w2, w3, w4, none, none]) ∧ r.length = m ∧ ∃ i, fs.drop i = zs ∧ i + zs.length = fs.length ∧ Vc i r) hl (fun z zs r η => by
      rintro ⟨⟨w2, w3, w4, rfl⟩, hrl, i, hd, hi, hv⟩
      simp only [List.length_cons] at hi
      have hlt : i < fs.length := by omega
      have hz : fs[i] = z ∧ fs.drop (i + 1) = zs := by
        rw [List.drop_eq_getElem_cons hlt] at hd
        simp only [List.cons.injEq] at hd
        exact hd
      have hmem : z ∈ fs := hz.1 ▸ List.getElem_mem hlt
      have hzv : Vc i z.2 := hV i z (by rw [List.getElem?_eq_getElem hlt, hz.1])
      have B := step45 (fu := fu) (fl := .loc l) (w2 := w2) (w3 := w3) (w4 := w4) N (by omega) (by omega) hrl (hF.l z hmem) (hF.nz z hmem) hv hzv
      have hv' : Vc (i + 1) (stepQ r z) := by
        by_cases h0 : r.getD z.1 0 = 0
        · have : stepQ r z = r := by unfold stepQ; rw [if_pos h0]
          rw [this]; exact hv.up (by omega)
        · exact (step_b (by omega) hrl (hF.l z hmem) (hF.nz z hmem) hv hzv h0).v
      simp [fsD]
      refine B.mono ?_
      rintro f S' ⟨rfl, η', rfl, w4', rfl⟩
      exact ⟨rfl, _, rfl, ⟨_, _, _, rfl⟩, step_len hrl (hF.l z hmem).2, i + 1, hz.2, by omega, hv'⟩)
    fs 0 r [some (.loc l), some (.d (.lst (r.map ratD))), none, none, none, none, none] (by simp) (by simp) ⟨⟨_, _, _, rfl⟩, hr, 0, by simp, by simp, h0⟩
  have hlst : ∀ S : Store, biD .list [.d rD] S = some (.lst (r.map ratD)) := fun S => by rcases hrD with rfl | rfl <;> rfl
  simp [-List.map_map, Ir.f45, startE, getV, hlst, hl, forSrc]
  refine Tot.seq L ?_
  rintro f S' ⟨rfl, η', rfl, ⟨w2, w3, w4, rfl⟩, _⟩
  simp [getV, leftQ]
end K07
/-! SE: the law's rank. -/
namespace K07
open RI EU LinQ
variable {fu n m t : Nat} {S : Store}
def rowQ (r : List Rat) : D := .tup (r.map ratD)
theorem left_v {fs : List (Nat × List Rat)} (hm : m ≤ 5) (hF : FsOk m fs) (hV : FsV fs) : ∀ (zs : List (Nat × List Rat)) (i : Nat) (r : List Rat), fs.drop i = zs → i + zs.length = fs.length → r.length = m → Vc i r → Vc fs.length (zs.foldl stepQ r)
  | [], i, r, _, hi, _, hv => hv.up (by simp at hi; omega)
  | z :: zs, i, r, hd, hi, hr, hv => by
    simp only [List.length_cons] at hi
    have hfew := fs_few hF
    have hlt : i < fs.length := by omega
    have hz : fs[i] = z ∧ fs.drop (i + 1) = zs := by
      rw [List.drop_eq_getElem_cons hlt] at hd
      simp only [List.cons.injEq] at hd
      exact hd
    have hmem : z ∈ fs := hz.1 ▸ List.getElem_mem hlt
    have hzv : Vc i z.2 := hV i z (by rw [List.getElem?_eq_getElem hlt, hz.1])
    have hv' : Vc (i + 1) (stepQ r z) := by
      by_cases h0 : r.getD z.1 0 = 0
      · have : stepQ r z = r := by unfold stepQ; rw [if_pos h0]
        rw [this]; exact hv.up (by omega)
      · exact (step_b (by omega) hr (hF.l z hmem) (hF.nz z hmem) hv hzv h0).v
    exact left_v hm hF hV zs (i + 1) (stepQ r z) hz.2 (by omega) (step_len hr (hF.l z hmem).2) hv'
theorem add_v {fs : List (Nat × List Rat)} {r : List Rat} (hm : m ≤ 5) (hF : FsOk m fs) (hV : FsV fs) (hr : r.length = m) (h0 : Vc 0 r) : FsV (addQ fs r) := by
  have hv := left_v hm hF hV fs 0 r (by simp) (by simp) hr h0
  unfold addQ
  cases firstQ (leftQ fs r) with
  | none => exact hV
  | some p =>
    intro i z hz
    by_cases hi : i < fs.length
    · rw [List.getElem?_append_left hi] at hz
      exact hV i z hz
    · rw [List.getElem?_append_right (by omega)] at hz
      have hi' : i = fs.length := by
        cases h : i - fs.length with
        | zero => omega
        | succ k => rw [h] at hz; simp at hz
      subst hi'
      simp at hz
      subst hz
      exact hv
theorem left45c {l : Nat} {fs : List (Nat × List Rat)} {r : List Rat} {rD : D} (hrD : rD = .tup (r.map ratD) ∨ rD = .lst (r.map ratD)) (hS : belows S.length S = true) (hfu : 1000000 < fu) (hm : m ≤ 5) (hl : S[l]? = some (.lst (fs.map fsD))) (hF : FsOk m fs) (hV : FsV fs) (hr : r.length = m) (h0 : Vc 0 r) :
    callF Ir.P fu (n + 3) 45 [.loc l, .d rD] S = .ok (.d (.lst ((leftQ fs r).map ratD))) S := by
  obtain ⟨f, S', e, rfl, rfl⟩ := (left45 (fu := fu) (num_ok (n := n) hS hfu) hrD hm hl hF hV hr h0).ex
  exact runD (fd := Ir.f45) rfl rfl rfl hS e
theorem places_first (r : List Rat) : ((List.range r.length).filter fun i => decide (r.getD i 0 ≠ 0)).map (fun i => D.int (i : Nat)) = match firstQ r with
    | some p => .int (p : Nat) :: (((List.range r.length).filter fun i => decide (r.getD i 0 ≠ 0)).tail.map fun i => D.int (i : Nat))
    | none => [] := by
  unfold firstQ
  cases (List.range r.length).filter fun i => decide (r.getD i 0 ≠ 0) with
  | nil => rfl
  | cons a l => rfl
theorem steps46 {rows : List (List Rat)} (hS : belows S.length S = true) (hfu : 1000000 < fu) (hm : m ≤ 5) (hl : rows.length ≤ 100) (hr : ∀ r ∈ rows, r.length = m ∧ Vc 0 r) :
    callF Ir.P fu (n + 4) 46 [.d (.lst (rows.map rowQ))] S = .ok (.d (.lst ((rows.foldl addQ []).map fsD))) S := by
  have h45 : ∀ {S : Store} {l : Nat} {fs : List (Nat × List Rat)} {r : List Rat}, belows S.length S = true → S[l]? = some (.lst (fs.map fsD)) → FsOk m fs → FsV fs → r.length = m → Vc 0 r → callF Ir.P fu (n + 3) 45 [.loc l, .d (rowQ r)] S = .ok (.d (.lst ((leftQ fs r).map ratD))) S := fun hS hl hF hV hr h0 => left45c (.inl rfl) hS hfu hm hl hF hV hr h0
  refine runDL (fd := Ir.f46) rfl rfl rfl hS ?_
  generalize callF Ir.P fu (n + 3) = cf at *
  have L := Tot.forR (set := setT ⟨cf, Ir.P, fu⟩ (.nm 2)) (body := execSs ⟨cf, Ir.P, fu⟩ Ir.f46b0) rowQ addQ
    (fun zs fs η S' => ((∃ w2 w3 w4, η = [some (.d (.lst (rows.map rowQ))), some (.loc S.length), w2, w3, w4, none]) ∧ S' = S ++ [.lst (fs.map fsD)]) ∧ FsOk m fs ∧ FsV fs ∧ (∃ seen, Eqv (vecs fs) seen) ∧ ∀ r ∈ zs, r.length = m ∧ Vc 0 r)
    (fun r zs fs η S' => by
      rintro ⟨⟨⟨w2, w3, w4, rfl⟩, rfl⟩, hF, hV, ⟨seen, he⟩, hz⟩
      obtain ⟨hrl, hrv⟩ := hz r (by simp)
      have hB : belows (S ++ [Cell.lst (fs.map fsD)]).length (S ++ [Cell.lst (fs.map fsD)]) = true := belows_lst (L := [Cell.lst (fs.map fsD)]) hS (by simp)
      have e := h45 hB (l := S.length) (by simp) hF hV hrl hrv
      obtain ⟨h1, h2, _⟩ := add_ok hF he hrl
      have h3 := add_v hm hF hV hrl hrv
      have hfew := fs_few hF
      have hll : (leftQ fs r).length = m := by
        have hin : ∀ z ∈ [] ++ fs, z.1 < m ∧ z.2.length = m ∧ z.2.getD z.1 0 ≠ 0 ∧ vec z.2 ∈ vecs fs := fun z hz => by
          have hz : z ∈ fs := by simpa using hz
          exact ⟨(hF.l z hz).1, (hF.l z hz).2, hF.nz z hz, List.mem_map.mpr ⟨z, hz, rfl⟩⟩
        exact (left_ok (all := vecs fs) fs [] r (vec r) hin (by simpa using hF.st) hrl Left.self (by simp)).1
      have a0 : ∀ q : Rat, L2.atI [D.int q.num, D.int (q.den : Nat)] 0 = some (.int q.num) := fun q => rfl
      have key := lcFil (C := ⟨cf, Ir.P, fu⟩) (i := 5) (e := .var 5) (c := .cmp .ne (.ix (.ix (.var 3) (.var 5)) (.int 0)) (.int 0)) (η := [some (.d (.lst (rows.map rowQ))), some (.loc S.length), some (.d (rowQ r)), some (.d (.lst ((leftQ fs r).map ratD))), w4, none]) (S := S ++ [Cell.lst (fs.map fsD)]) (fun i : Nat => .int i) (fun i : Nat => .int i) (fun i => decide ((leftQ fs r).getD i 0 ≠ 0)) (zs := List.range (leftQ fs r).length) (by simp; unfold line; omega) (by simp)
        (fun i hi => by
          have hi := List.mem_range.mp hi
          have ar := at_r (s := leftQ fs r) (c := i) hi
          simp [-List.getD_eq_getElem?_getD, getV, ar, ratD, a0, num0])
        (fun i hi _ => by simp [getV])
      rw [places_first] at key
      have rl : (-lineR ≤ ((leftQ fs r).length : Int)) ∧ ((leftQ fs r).length : Int) < lineR := by unfold lineR; omega
      rw [st_nm, if_pos (by simp), bnd_ok]
      have hadd : addQ fs r = match firstQ (leftQ fs r) with
        | some p => fs ++ [(p, leftQ fs r)]
        | none => fs := rfl
      have fin : FsOk m (addQ fs r) ∧ FsV (addQ fs r) ∧ (∃ seen, Eqv (vecs (addQ fs r)) seen) ∧ ∀ r ∈ zs, r.length = m ∧ Vc 0 r := ⟨h1, h3, ⟨_, h2⟩, fun y hy => hz y (by simp [hy])⟩
      cases hf : firstQ (leftQ fs r) with
      | none =>
        rw [hf] at key hadd
        simp only at hadd
        simp [-List.map_map, -List.getD_eq_getElem?_getD, getV, e, rl, wipeE, lcSrc] at key ⊢
        rw [key]
        rw [hadd] at fin ⊢
        simp [getV]
        exact fin
      | some p =>
        rw [hf] at key hadd
        simp only at hadd
        have hfs : fs.length < line := by unfold line; omega
        simp [-List.map_map, -List.getD_eq_getElem?_getD, getV, e, rl, wipeE, lcSrc] at key ⊢
        rw [key]
        rw [hadd] at fin ⊢
        simp [getV, hfs, fsD]
        exact fin)
    rows [] [some (.d (.lst (rows.map rowQ))), some (.loc S.length), none, none, none, none] (S ++ [.lst []]) ⟨⟨⟨_, _, _, rfl⟩, rfl⟩, FsOk.nil, fun i z hz => by simp at hz, ⟨[], Eqv.refl []⟩, hr⟩
  simp [-List.map_map, Ir.f46, startE, getV, thawD, forSrc]
  refine Tot.seq L ?_
  rintro f S' ⟨η', rfl, ⟨⟨w2, w3, w4, rfl⟩, rfl⟩, _⟩
  simp [getV]
theorem rank47 {rows : List (List Rat)} (hS : belows S.length S = true) (hfu : 1000000 < fu) (hm : m ≤ 5) (hl : rows.length ≤ 100) (hr : ∀ r ∈ rows, r.length = m ∧ Vc 0 r) :
    callF Ir.P fu (n + 5) 47 [.d (.lst (rows.map rowQ))] S = .ok (.d (.int (rk [] (rows.map vec) : Nat))) S := by
  have e := steps46 (n := n) hS hfu hm hl hr
  refine runD (fd := Ir.f47) rfl rfl rfl hS ?_
  generalize callF Ir.P fu (n + 4) = cf at *
  have hk := rank_ok (m := m) (rows := rows) fun r h => (hr r h).1
  simp [-List.map_map, Ir.f47, startE, getV, e, hk]
end K07
/-! SF: the program's taking away of rows, in plain Lean. -/
namespace K07
open RI EU LinQ
variable {m t : Nat}
def vecZ (r : List Int) : V := fun i => ((r.getD i 0 : Int) : Rat)
theorem vecZ_zero {r : List Int} {i : Nat} : vecZ r i = 0 ↔ r.getD i 0 = 0 := by
  unfold vecZ
  constructor
  · intro e
    exact_mod_cast e
  · intro e
    rw [e]; rfl
def gcdL (r : List Int) : Nat := r.foldl (fun g x => Int.gcd (g : Int) x) 0
def lightZ (r : List Int) : List Int := if 1 < gcdL r then r.map fun x => x.fdiv (gcdL r) else r
theorem gcd_fold : ∀ (r : List Int) (g : Nat), (∀ x ∈ r, ((r.foldl (fun g x => Int.gcd (g : Int) x) g : Nat) : Int) ∣ x) ∧ (r.foldl (fun g x => Int.gcd (g : Int) x) g) ∣ g
  | [], g => ⟨by simp, Nat.dvd_refl _⟩
  | x :: r, g => by
    obtain ⟨h1, h2⟩ := gcd_fold r (Int.gcd (g : Int) x)
    have h3 : Int.gcd (g : Int) x ∣ g := by
      have := Int.gcd_dvd_left (g : Int) x
      exact Int.natCast_dvd_natCast.mp this
    refine ⟨fun y hy => ?_, Nat.dvd_trans h2 h3⟩
    rcases List.mem_cons.mp hy with rfl | hy
    · exact Int.dvd_trans (Int.natCast_dvd_natCast.mpr h2) (Int.gcd_dvd_right (g : Int) y)
    · exact h1 y hy
theorem gcd_dvd {r : List Int} : ∀ x ∈ r, ((gcdL r : Nat) : Int) ∣ x := (gcd_fold r 0).1
theorem light_len {r : List Int} : (lightZ r).length = r.length := by unfold lightZ; split <;> simp
theorem vec_light (r : List Int) : ∃ c : Rat, c ≠ 0 ∧ vecZ (lightZ r) = fun i => c * vecZ r i := by
  unfold lightZ
  by_cases h : 1 < gcdL r
  · rw [if_pos h]
    have hg : ((gcdL r : Nat) : Rat) ≠ 0 := fun e => by
      have : (gcdL r : Nat) = 0 := by exact_mod_cast e
      omega
    refine ⟨((gcdL r : Nat) : Rat)⁻¹, fun e => by
      have := Rat.inv_mul_cancel _ hg
      rw [e, Rat.zero_mul] at this
      exact absurd this (by decide), ?_⟩
    funext i
    unfold vecZ
    simp only [List.getD_eq_getElem?_getD, List.getElem?_map]
    cases hx : r[i]? with
    | none => simp
    | some x =>
      simp only [Option.map_some, Option.getD_some]
      obtain ⟨y, hy⟩ := gcd_dvd (r := r) x (List.mem_of_getElem? hx)
      have : x.fdiv (gcdL r) = y := by
        rw [hy, Int.mul_fdiv_cancel_left _ (by omega)]
      rw [this, hy, Rat.intCast_mul, ← Rat.mul_assoc]
      have e2 : (((gcdL r : Nat) : Int) : Rat) = ((gcdL r : Nat) : Rat) := rfl
      rw [e2, Rat.inv_mul_cancel _ hg, Rat.one_mul]
  · rw [if_neg h]
    exact ⟨1, by decide, by funext i; rw [Rat.one_mul]⟩
def crossZ (l : List Int) (z : Nat × List Int) : List Int := (l.zip z.2).map fun p => p.1 * z.2.getD z.1 0 - p.2 * l.getD z.1 0
def stepZ (l : List Int) (z : Nat × List Int) : List Int := if l.getD z.1 0 = 0 then l else lightZ (crossZ l z)
theorem cross_len {l : List Int} {z : Nat × List Int} (hl : l.length = m) (hz : z.2.length = m) : (crossZ l z).length = m := by simp [crossZ, hl, hz]
theorem stepZ_len {l : List Int} {z : Nat × List Int} (hl : l.length = m) (hz : z.2.length = m) : (stepZ l z).length = m := by
  unfold stepZ
  split
  · exact hl
  · rw [light_len]; exact cross_len hl hz
theorem vec_cross {l : List Int} {z : Nat × List Int} (hl : l.length = m) (hz : z.2.length = m) : vecZ (crossZ l z) = fun i => vecZ z.2 z.1 * vecZ l i + (- vecZ l z.1) * vecZ z.2 i := by
  funext i
  have hc : (crossZ l z).getD i 0 = l.getD i 0 * z.2.getD z.1 0 - z.2.getD i 0 * l.getD z.1 0 := by
    unfold crossZ
    rw [List.getD_eq_getElem?_getD, List.getElem?_map, List.getD_eq_getElem?_getD (l := l) (i := i), List.getD_eq_getElem?_getD (l := z.2) (i := i)]
    by_cases hi : i < m
    · rw [List.getElem?_eq_getElem (l := l.zip z.2) (by simp; omega), List.getElem?_eq_getElem (l := l) (by omega), List.getElem?_eq_getElem (l := z.2) (i := i) (by omega)]
      simp [List.getElem_zip]
    · rw [List.getElem?_eq_none (l := l.zip z.2) (by simp; omega), List.getElem?_eq_none (l := l) (by omega), List.getElem?_eq_none (l := z.2) (i := i) (by omega)]
      simp
  unfold vecZ
  rw [hc, Int.sub_eq_add_neg, Rat.intCast_add, Rat.intCast_neg, Rat.intCast_mul, Rat.intCast_mul, Rat.neg_mul, Rat.mul_comm, Rat.mul_comm ((z.2.getD i 0 : Int) : Rat)]
theorem vec_stepZ {l : List Int} {z : Nat × List Int} (hl : l.length = m) (hz : z.2.length = m) (hnz : z.2.getD z.1 0 ≠ 0) (h0 : l.getD z.1 0 ≠ 0) : ∃ x y : Rat, x ≠ 0 ∧ vecZ (stepZ l z) = (fun i => x * vecZ l i + y * vecZ z.2 i) ∧ vecZ (stepZ l z) z.1 = 0 := by
  obtain ⟨c, hc, e⟩ := vec_light (crossZ l z)
  have e1 := vec_cross hl hz
  have hs : stepZ l z = lightZ (crossZ l z) := by unfold stepZ; rw [if_neg h0]
  have hk : vecZ z.2 z.1 ≠ 0 := fun e => hnz (vecZ_zero.mp e)
  refine ⟨c * vecZ z.2 z.1, c * (- vecZ l z.1), fun h => ?_, ?_, ?_⟩
  · rcases Rat.mul_eq_zero.mp h with h | h
    · exact hc h
    · exact hk h
  · rw [hs, e, e1]
    funext i
    rw [Rat.mul_add, Rat.mul_assoc, Rat.mul_assoc]
  · rw [hs, e, e1]
    show c * (vecZ z.2 z.1 * vecZ l z.1 + -vecZ l z.1 * vecZ z.2 z.1) = 0
    rw [Rat.neg_mul, Rat.mul_comm (vecZ l z.1), Rat.add_neg_cancel, Rat.mul_zero]
def leftZ (sl : List (Nat × List Int)) (l : List Int) : List Int := sl.foldl stepZ l
theorem leftZ_ok {all : List V} : ∀ (fs done : List (Nat × List Int)) (r : List Int) (v : V), (∀ z ∈ done ++ fs, z.1 < m ∧ z.2.length = m ∧ z.2.getD z.1 0 ≠ 0 ∧ vecZ z.2 ∈ all) → (done ++ fs).Pairwise (fun a b => b.2.getD a.1 0 = 0) → r.length = m → Left all v (vecZ r) → (∀ z ∈ done, r.getD z.1 0 = 0) →
    (leftZ fs r).length = m ∧ Left all v (vecZ (leftZ fs r)) ∧ ∀ z ∈ done ++ fs, (leftZ fs r).getD z.1 0 = 0
  | [], done, r, v, _, _, hl, hL, hd => ⟨hl, hL, by simpa [leftZ] using hd⟩
  | z :: fs, done, r, v, hz, hp, hl, hL, hd => by
    have hzz := hz z (by simp)
    have hl' := stepZ_len hl hzz.2.1
    have key : Left all v (vecZ (stepZ r z)) ∧ ∀ y ∈ done ++ [z], (stepZ r z).getD y.1 0 = 0 := by
      by_cases h0 : r.getD z.1 0 = 0
      · have e : stepZ r z = r := by unfold stepZ; rw [if_pos h0]
        rw [e]
        refine ⟨hL, fun y hy => ?_⟩
        rcases List.mem_append.mp hy with hy | hy
        · exact hd y hy
        · simp at hy; subst hy; exact h0
      · obtain ⟨x, y, hx, e, e0⟩ := vec_stepZ hl hzz.2.1 hzz.2.2.1 h0
        refine ⟨by rw [e]; exact hL.step hzz.2.2.2 hx, fun w hw => ?_⟩
        have ew : vecZ (stepZ r z) w.1 = 0 := by
          rcases List.mem_append.mp hw with hw | hw
          · rw [e]
            have h1 : vecZ r w.1 = 0 := by unfold vecZ; rw [hd w hw]; rfl
            have h2 : vecZ z.2 w.1 = 0 := by unfold vecZ; rw [(List.pairwise_append.mp hp).2.2 w hw z (by simp)]; rfl
            show x * vecZ r w.1 + y * vecZ z.2 w.1 = 0
            rw [h1, h2, Rat.mul_zero, Rat.mul_zero, Rat.add_zero]
          · simp only [List.mem_singleton] at hw
            subst hw
            exact e0
        exact vecZ_zero.mp ew
    have ih := leftZ_ok fs (done ++ [z]) (stepZ r z) v (by simpa using hz) (by simpa using hp) hl' key.1 key.2
    simpa [leftZ] using ih
/-! ### known rows by place -/
def insK (z : Nat × List Int) : List (Nat × List Int) → List (Nat × List Int)
  | [] => [z]
  | y :: r => if z.1 ≤ y.1 then z :: y :: r else y :: insK z r
def sortK (kvs : List (Nat × List Int)) : List (Nat × List Int) := kvs.foldr insK []
theorem insK_key (z : Nat × List Int) : ∀ l : List (Nat × List Int), (insK z l).map (fun y => (y.1 : Int)) = insI (z.1 : Int) (l.map fun y => (y.1 : Int))
  | [] => rfl
  | y :: r => by
    unfold insK
    by_cases h : z.1 ≤ y.1
    · rw [if_pos h, List.map_cons, List.map_cons, insI, if_pos (by omega)]
    · rw [if_neg h, List.map_cons, List.map_cons, insI, if_neg (by omega), insK_key z r]
theorem sortK_key : ∀ kvs : List (Nat × List Int), (sortK kvs).map (fun y => (y.1 : Int)) = sortI (kvs.map fun y => (y.1 : Int))
  | [] => rfl
  | z :: r => by
    show (insK z (sortK r)).map _ = insI _ (sortI _)
    rw [insK_key, sortK_key r]
theorem insK_perm (z : Nat × List Int) : ∀ l : List (Nat × List Int), (insK z l).Perm (z :: l)
  | [] => .refl _
  | y :: r => by
    unfold insK
    by_cases h : z.1 ≤ y.1
    · rw [if_pos h]
    · rw [if_neg h]
      exact ((insK_perm z r).cons y).trans (.swap z y r)
theorem sortK_perm : ∀ kvs : List (Nat × List Int), (sortK kvs).Perm kvs
  | [] => .refl _
  | z :: r => (insK_perm z _).trans ((sortK_perm r).cons z)
theorem insK_rise (z : Nat × List Int) : ∀ {l : List (Nat × List Int)}, l.Pairwise (fun a b => a.1 ≤ b.1) → (insK z l).Pairwise fun a b => a.1 ≤ b.1
  | [], _ => by simp [insK]
  | y :: r, h => by
    obtain ⟨h1, h2⟩ := List.pairwise_cons.mp h
    unfold insK
    by_cases hz : z.1 ≤ y.1
    · rw [if_pos hz]
      refine List.pairwise_cons.mpr ⟨fun w hw => ?_, h⟩
      rcases List.mem_cons.mp hw with rfl | hw
      · exact hz
      · have := h1 w hw; omega
    · rw [if_neg hz]
      refine List.pairwise_cons.mpr ⟨fun w hw => ?_, insK_rise z h2⟩
      rcases List.mem_cons.mp ((insK_perm z r).mem_iff.mp hw) with rfl | hw
      · omega
      · exact h1 w hw
theorem sortK_rise : ∀ kvs : List (Nat × List Int), (sortK kvs).Pairwise fun a b => a.1 ≤ b.1
  | [] => .nil
  | z :: r => insK_rise z (sortK_rise r)
/-- known rows: each holds something at its place first -/
structure KvOk (m : Nat) (kvs : List (Nat × List Int)) : Prop where
  l : ∀ z ∈ kvs, z.1 < m ∧ z.2.length = m
  nz : ∀ z ∈ kvs, z.2.getD z.1 0 ≠ 0
  z : ∀ z ∈ kvs, ∀ j < z.1, z.2.getD j 0 = 0
  nd : (kvs.map (·.1)).Nodup
theorem KvOk.nil : KvOk m [] := ⟨by simp, by simp, by simp, .nil⟩
theorem KvOk.st {kvs : List (Nat × List Int)} (h : KvOk m kvs) : (sortK kvs).Pairwise fun a b => b.2.getD a.1 0 = 0 := by
  have hp := sortK_perm kvs
  have h1 := sortK_rise kvs
  have h2 : ((sortK kvs).map (·.1)).Nodup := (hp.map _).nodup_iff.mpr h.nd
  unfold List.Nodup at h2
  rw [List.pairwise_map] at h2
  have h3 := h1.and h2
  have : ∀ l : List (Nat × List Int), (∀ z ∈ l, z ∈ kvs) → l.Pairwise (fun a b => a.1 ≤ b.1 ∧ a.1 ≠ b.1) → l.Pairwise fun a b => b.2.getD a.1 0 = 0 := by
    intro l
    induction l with
    | nil => intros; exact .nil
    | cons a l ih =>
      intro hm hp
      obtain ⟨g1, g2⟩ := List.pairwise_cons.mp hp
      refine List.pairwise_cons.mpr ⟨fun b hb => ?_, ih (fun z hz => hm z (by simp [hz])) g2⟩
      have := g1 b hb
      exact h.z b (hm b (by simp [hb])) a.1 (by omega)
  exact this _ (fun z hz => hp.mem_iff.mp hz) h3
theorem KvOk.stair {kvs : List (Nat × List Int)} (h : KvOk m kvs) : Stair ((sortK kvs).map fun z => (z.1, vecZ z.2)) := by
  have : ∀ fs : List (Nat × List Int), (∀ z ∈ fs, z.2.getD z.1 0 ≠ 0) → fs.Pairwise (fun a b => b.2.getD a.1 0 = 0) → Stair (fs.map fun z => (z.1, vecZ z.2)) := by
    intro fs
    induction fs with
    | nil => intros; exact .nil
    | cons z fs ih =>
      intro h1 h2
      obtain ⟨h3, h4⟩ := List.pairwise_cons.mp h2
      refine .cons (fun e => h1 z (by simp) (vecZ_zero.mp e)) (fun y hy => ?_) (ih (fun y hy => h1 y (by simp [hy])) h4)
      obtain ⟨w, hw, rfl⟩ := List.mem_map.mp hy
      show vecZ w.2 z.1 = 0
      unfold vecZ
      rw [h3 w hw]; rfl
  exact this _ (fun z hz => h.nz z ((sortK_perm kvs).mem_iff.mp hz)) h.st
def vecsZ (kvs : List (Nat × List Int)) : List V := kvs.map fun z => vecZ z.2
def firstZ (r : List Int) : Option Nat := ((List.range r.length).filter fun i => decide (r.getD i 0 ≠ 0)).head?
theorem firstZ_none {r : List Int} (h : firstZ r = none) : vecZ r = fun _ => 0 := by
  unfold firstZ at h
  rw [List.head?_eq_none_iff, List.filter_eq_nil_iff] at h
  funext i
  unfold vecZ
  by_cases hi : i < r.length
  · have := h i (List.mem_range.mpr hi)
    have h0 : r.getD i 0 = 0 := by simpa using this
    rw [h0]; rfl
  · rw [List.getD_eq_getElem?_getD, List.getElem?_eq_none (by omega)]; rfl
theorem firstZ_some {r : List Int} {p : Nat} (h : firstZ r = some p) : p < r.length ∧ r.getD p 0 ≠ 0 ∧ ∀ j < p, r.getD j 0 = 0 := by
  unfold firstZ at h
  have hm := List.mem_of_mem_head? h
  obtain ⟨h1, h2⟩ := List.mem_filter.mp hm
  have h1 := List.mem_range.mp h1
  refine ⟨h1, by simpa using h2, fun j hj => ?_⟩
  by_cases hz : r.getD j 0 = 0
  · exact hz
  · exfalso
    have hmj : j ∈ (List.range r.length).filter fun i => decide (r.getD i 0 ≠ 0) := List.mem_filter.mpr ⟨List.mem_range.mpr (by omega), by simpa using hz⟩
    have hpw : ((List.range r.length).filter fun i => decide (r.getD i 0 ≠ 0)).Pairwise fun a b => a < b := List.Pairwise.filter _ List.pairwise_lt_range
    cases hf : (List.range r.length).filter fun i => decide (r.getD i 0 ≠ 0) with
    | nil => rw [hf] at hmj; simp at hmj
    | cons a l =>
      rw [hf] at h hmj hpw
      simp at h
      subst h
      rcases List.mem_cons.mp hmj with e | e
      · omega
      · have := (List.pairwise_cons.mp hpw).1 j e
        omega
/-- one row more: w is the row in integers, a multiple of it -/
def addZ (kvs : List (Nat × List Int)) (w : List Int) : List (Nat × List Int) := match firstZ (leftZ (sortK kvs) w) with
  | some p => kvs ++ [(p, leftZ (sortK kvs) w)]
  | none => kvs
theorem addZ_ok {kvs : List (Nat × List Int)} {seen : List V} {w : List Int} {v : V} {c : Rat} (h : KvOk m kvs) (he : Eqv (vecsZ kvs) seen) (hw : w.length = m) (hc : c ≠ 0) (hv : vecZ w = fun i => c * v i) :
    KvOk m (addZ kvs w) ∧ Eqv (vecsZ (addZ kvs w)) (seen ++ [v]) ∧ (∀ vs, rk seen (v :: vs) = rk (seen ++ [v]) vs + if (firstZ (leftZ (sortK kvs) w)).isSome = true then 1 else 0) := by
  have hp := sortK_perm kvs
  have hin : ∀ z ∈ [] ++ sortK kvs, z.1 < m ∧ z.2.length = m ∧ z.2.getD z.1 0 ≠ 0 ∧ vecZ z.2 ∈ vecsZ kvs := fun z hz => by
    have hz : z ∈ kvs := hp.mem_iff.mp (by simpa using hz)
    exact ⟨(h.l z hz).1, (h.l z hz).2, h.nz z hz, List.mem_map.mpr ⟨z, hz, rfl⟩⟩
  have hL : Left (vecsZ kvs) v (vecZ w) := ⟨c, _, hc, .zero, by rw [hv]; funext i; rw [Rat.add_zero]⟩
  obtain ⟨l1, l2, l3⟩ := leftZ_ok (all := vecsZ kvs) (sortK kvs) [] w v hin (by simpa using h.st) hw hL (by simp)
  have hsp : Sp (In (vecsZ kvs)) (vecZ (leftZ (sortK kvs) w)) ↔ Sp (In seen) v := l2.sp.trans he.iff
  have hst : Sp (In (((sortK kvs).map fun z => (z.1, vecZ z.2)).map (·.2))) (vecZ (leftZ (sortK kvs) w)) ↔ Sp (In (vecsZ kvs)) (vecZ (leftZ (sortK kvs) w)) := by
    have e : ∀ k, In (((sortK kvs).map fun z => (z.1, vecZ z.2)).map (·.2)) k ↔ In (vecsZ kvs) k := fun k => by
      simp only [In, vecsZ, List.map_map, List.mem_map, Function.comp]
      exact ⟨fun ⟨z, hz, e⟩ => ⟨z, hp.mem_iff.mp hz, e⟩, fun ⟨z, hz, e⟩ => ⟨z, hp.mem_iff.mpr hz, e⟩⟩
    exact ⟨fun x => x.mono fun k hk => (e k).mp hk, fun x => x.mono fun k hk => (e k).mpr hk⟩
  unfold addZ
  cases hf : firstZ (leftZ (sortK kvs) w) with
  | none =>
    have h0 := firstZ_none hf
    have hv : Sp (In seen) v := hsp.mp (by rw [h0]; exact .zero)
    exact ⟨h, he.skip hv, fun vs => by rw [rk_in hv]; simp⟩
  | some p =>
    obtain ⟨p1, p2, p3⟩ := firstZ_some hf
    have hnv : ¬ Sp (In seen) v := fun hv => by
      have := Stair.zero h.stair (v := vecZ (leftZ (sortK kvs) w)) (hst.mpr (hsp.mpr hv)) (fun z hz => by
        obtain ⟨y, hy, rfl⟩ := List.mem_map.mp hz
        show vecZ (leftZ (sortK kvs) w) y.1 = 0
        unfold vecZ
        rw [l3 y (by simpa using hy)]; rfl)
      exact p2 (vecZ_zero.mp (congrFun this p))
    refine ⟨⟨fun z hz => ?_, fun z hz => ?_, fun z hz => ?_, ?_⟩, ?_, fun vs => by rw [rk_out hnv]; simp⟩
    · rcases List.mem_append.mp hz with hz | hz
      · exact h.l z hz
      · simp at hz; subst hz; exact ⟨by omega, l1⟩
    · rcases List.mem_append.mp hz with hz | hz
      · exact h.nz z hz
      · simp at hz; subst hz; exact p2
    · rcases List.mem_append.mp hz with hz | hz
      · exact h.z z hz
      · simp at hz; subst hz; exact p3
    · rw [List.map_append, List.nodup_append]
      refine ⟨h.nd, by simp, fun a ha b hb => ?_⟩
      simp at hb
      subst hb
      obtain ⟨z, hz, rfl⟩ := List.mem_map.mp ha
      intro e
      have := l3 z (by simpa using hp.mem_iff.mpr hz)
      rw [e] at this
      exact p2 this
    · have := l2.eqv he
      simpa [vecsZ] using this
end K07
/-! SG: rows as integers; small ones; whole, lighter, leading. -/
namespace K07
open RI EU LinQ
variable {fu n m t a b e : Nat} {S : Store}
def botL (r : List Rat) : Nat := r.foldl (fun b q => Nat.lcm b q.den) 1
def wholeR (r : List Rat) : List Int := r.map fun q => q.num * ((botL r / q.den : Nat) : Int)
def wholeZ (r : List Rat) : List Int := lightZ (wholeR r)
/-- over 42, small -/
def Wd (r : List Rat) : Prop := ∀ q ∈ r, q.den ∣ 42 ∧ q.num.natAbs ≤ 4242
def Bz (e : Nat) (r : List Int) : Prop := ∀ x ∈ r, x.natAbs < 2 ^ e
theorem lcm_fold : ∀ (r : List Rat) (b : Nat), b ∣ 42 → (∀ q ∈ r, q.den ∣ 42) → (r.foldl (fun b q => Nat.lcm b q.den) b) ∣ 42 ∧ b ∣ (r.foldl (fun b q => Nat.lcm b q.den) b) ∧ ∀ q ∈ r, q.den ∣ (r.foldl (fun b q => Nat.lcm b q.den) b)
  | [], b, hb, _ => ⟨hb, Nat.dvd_refl _, by simp⟩
  | q :: r, b, hb, h => by
    obtain ⟨h1, h2, h3⟩ := lcm_fold r (Nat.lcm b q.den) (Nat.lcm_dvd hb (h q (by simp))) fun y hy => h y (by simp [hy])
    refine ⟨h1, Nat.dvd_trans (Nat.dvd_lcm_left _ _) h2, fun y hy => ?_⟩
    rcases List.mem_cons.mp hy with rfl | hy
    · exact Nat.dvd_trans (Nat.dvd_lcm_right _ _) h2
    · exact h3 y hy
theorem bot_ok {r : List Rat} (h : Wd r) : botL r ∣ 42 ∧ ∀ q ∈ r, q.den ∣ botL r := ⟨(lcm_fold r 1 (Nat.one_dvd _) fun q hq => (h q hq).1).1, (lcm_fold r 1 (Nat.one_dvd _) fun q hq => (h q hq).1).2.2⟩
theorem bot_pos {r : List Rat} (h : Wd r) : 0 < botL r ∧ botL r ≤ 42 := ⟨Nat.pos_of_dvd_of_pos (bot_ok h).1 (by decide), Nat.le_of_dvd (by decide) (bot_ok h).1⟩
theorem num_den (q : Rat) : ((q.num : Int) : Rat) = ((q.den : Nat) : Rat) * q := by
  have h : ((q.den : Nat) : Rat) ≠ 0 := fun e => q.den_nz (by exact_mod_cast e)
  have e := Rat.mul_inv_cancel _ h
  have e2 : (q.num : Rat) * ((q.den : Nat) : Rat)⁻¹ = q := by
    have h1 := Rat.num_divInt_den q
    rw [Rat.divInt_eq_div, Rat.div_def] at h1
    exact h1
  have e3 : ((q.den : Nat) : Rat) * ((q.num : Rat) * ((q.den : Nat) : Rat)⁻¹) = (q.num : Rat) := by
    rw [Rat.mul_comm ((q.num : Int) : Rat), ← Rat.mul_assoc, e, Rat.one_mul]
  rw [e2] at e3
  exact e3.symm
theorem vec_wholeR {r : List Rat} (h : Wd r) : vecZ (wholeR r) = fun i => ((botL r : Nat) : Rat) * vec r i := by
  funext i
  unfold vecZ vec wholeR
  simp only [List.getD_eq_getElem?_getD, List.getElem?_map]
  cases hq : r[i]? with
  | none => simp [Rat.mul_zero]
  | some q =>
    simp only [Option.map_some, Option.getD_some]
    obtain ⟨k, hk⟩ := (bot_ok h).2 q (List.mem_of_getElem? hq)
    have hd := q.den_nz
    rw [hk, Nat.mul_div_cancel_left _ (by omega), Rat.intCast_mul, num_den q]
    rw [show (((k : Nat) : Int) : Rat) = ((k : Nat) : Rat) from rfl, show ((q.den * k : Nat) : Rat) = ((q.den : Nat) : Rat) * ((k : Nat) : Rat) from Rat.natCast_mul _ _]
    rw [Rat.mul_assoc, Rat.mul_assoc, Rat.mul_comm q]
theorem whole_ok {r : List Rat} (h : Wd r) : (wholeZ r).length = r.length ∧ ∃ c : Rat, c ≠ 0 ∧ vecZ (wholeZ r) = fun i => c * vec r i := by
  obtain ⟨c, hc, e⟩ := vec_light (wholeR r)
  refine ⟨by unfold wholeZ; rw [light_len]; simp [wholeR], c * ((botL r : Nat) : Rat), fun h0 => ?_, ?_⟩
  · rcases Rat.mul_eq_zero.mp h0 with h0 | h0
    · exact hc h0
    · have : botL r = 0 := by exact_mod_cast h0
      have := bot_pos h
      omega
  · unfold wholeZ
    rw [e, vec_wholeR h]
    funext i
    rw [Rat.mul_assoc]
theorem gcdL_lt {r : List Int} (h : Bz e r) : gcdL r < 2 ^ e := by
  have key : ∀ (r : List Int) (g : Nat), g < 2 ^ e → Bz e r → r.foldl (fun g x => Int.gcd (g : Int) x) g < 2 ^ e := by
    intro r
    induction r with
    | nil => intro g hg _; exact hg
    | cons x r ih =>
      intro g hg hr
      refine ih _ ?_ fun y hy => hr y (by simp [hy])
      by_cases h0 : g = 0
      · subst h0
        have := hr x (by simp)
        simpa using this
      · have h1 : Int.gcd (g : Int) x ≤ g := Nat.gcd_le_left _ (by simp; omega)
        show Int.gcd (g : Int) x < 2 ^ e
        omega
  exact key r 0 (Nat.pow_pos (by decide)) h
theorem Bz.light {r : List Int} (h : Bz e r) : Bz e (lightZ r) := by
  unfold lightZ
  split
  · next hg =>
    intro x hx
    obtain ⟨y, hy, rfl⟩ := List.mem_map.mp hx
    obtain ⟨k, hk⟩ := gcd_dvd (r := r) y hy
    have h1 := h y hy
    have e1 : y.fdiv (gcdL r) = k := by rw [hk, Int.mul_fdiv_cancel_left _ (by omega)]
    rw [e1]
    have h2 : y.natAbs = gcdL r * k.natAbs := by rw [hk, Int.natAbs_mul, Int.natAbs_natCast]
    have h3 : k.natAbs ≤ gcdL r * k.natAbs := Nat.le_mul_of_pos_left _ (by omega)
    omega
  · exact h
theorem Bz.up {r : List Int} (h : Bz a r) (hab : a ≤ b) : Bz b r := fun x hx => Nat.lt_of_lt_of_le (h x hx) (Nat.pow_le_pow_right (by decide) hab)
theorem Bz.at {r : List Int} (h : Bz e r) (i : Nat) : (r.getD i 0).natAbs < 2 ^ e := by
  rw [List.getD_eq_getElem?_getD]
  cases hx : r[i]? with
  | none => simp; exact Nat.pow_pos (by decide)
  | some x => exact h x (List.mem_of_getElem? hx)
theorem Bz.cross {l : List Int} {z : Nat × List Int} (h : Bz a l) (hz : Bz b z.2) : Bz (a + b + 1) (crossZ l z) := by
  intro x hx
  obtain ⟨p, hp, rfl⟩ := List.mem_map.mp hx
  have h1 := h p.1 (List.of_mem_zip hp).1
  have h2 := hz p.2 (List.of_mem_zip hp).2
  have h3 := h.at z.1
  have h4 := hz.at z.1
  have g : ∀ (x y : Int) (a b : Nat), x.natAbs < 2 ^ a → y.natAbs < 2 ^ b → (x * y).natAbs ≤ 2 ^ (a + b) - 1 := fun x y a b hx hy => by
    rw [Int.natAbs_mul, Nat.pow_add]
    have := Nat.mul_le_mul (Nat.le_sub_one_of_lt hx) (Nat.le_of_lt hy)
    have h5 : (2 ^ a - 1) * 2 ^ b = 2 ^ a * 2 ^ b - 2 ^ b := by rw [Nat.sub_mul, Nat.one_mul]
    have h6 : 0 < 2 ^ b := Nat.pow_pos (by decide)
    omega
  have g1 := g p.1 (z.2.getD z.1 0) a b h1 h4
  have g2 := g p.2 (l.getD z.1 0) b a h2 h3
  have g3 := Int.natAbs_sub_le (p.1 * z.2.getD z.1 0) (p.2 * l.getD z.1 0)
  have g4 : 0 < 2 ^ (a + b) := Nat.pow_pos (by decide)
  rw [Nat.add_comm b a] at g2
  rw [Nat.pow_succ]
  omega
theorem Bz.step {l : List Int} {z : Nat × List Int} (h : Bz a l) (hz : Bz b z.2) : Bz (a + (b + 1)) (stepZ l z) := by
  unfold stepZ
  split
  · exact h.up (by omega)
  · exact ((h.cross hz).up (by omega)).light
theorem Bz.wholeR {r : List Rat} (h : Wd r) : Bz 18 (wholeR r) := by
  intro x hx
  obtain ⟨q, hq, rfl⟩ := List.mem_map.mp hx
  have h1 := (h q hq).2
  have h2 : botL r / q.den ≤ 42 := Nat.le_trans (Nat.div_le_self _ _) (bot_pos h).2
  rw [Int.natAbs_mul, Int.natAbs_natCast]
  have := Nat.mul_le_mul h1 h2
  omega
theorem Bz.whole {r : List Rat} (h : Wd r) : Bz 18 (wholeZ r) := (Bz.wholeR h).light
/-- how long the numbers of so many known rows are -/
def eK : Nat → Nat
  | 0 => 18
  | t + 1 => 18 + t * (eK t + 1)
theorem eK_le : t ≤ 5 → eK t ≤ eK (t + 1) ∧ eK (t + 1) ≤ 6193 := fun h => by
  match t, h with
  | 0, _ => decide
  | 1, _ => decide
  | 2, _ => decide
  | 3, _ => decide
  | 4, _ => decide
  | 5, _ => decide
theorem Bz.left {b : Nat} : ∀ (fs : List (Nat × List Int)) {a : Nat} {l : List Int}, Bz a l → (∀ z ∈ fs, Bz b z.2) → Bz (a + fs.length * (b + 1)) (leftZ fs l)
  | [], a, l, h, _ => by simpa [leftZ] using h
  | z :: fs, a, l, h, hz => by
    have := Bz.left fs (h.step (hz z (by simp))) fun y hy => hz y (by simp [hy])
    have e : a + (b + 1) + fs.length * (b + 1) = a + (z :: fs).length * (b + 1) := by rw [List.length_cons, Nat.succ_mul]; omega
    rw [e] at this
    exact this
theorem kv_few {kvs : List (Nat × List Int)} (h : KvOk m kvs) : kvs.length ≤ m := by
  have sub : ∀ (a b : List Nat), a.Nodup → (∀ x ∈ a, x ∈ b) → a.length ≤ b.length := by
    intro a
    induction a with
    | nil => intros; simp
    | cons x a ih =>
      intro b h hs
      obtain ⟨h1, h2⟩ := List.nodup_cons.mp h
      have hx := hs x (by simp)
      have := ih (b.erase x) h2 fun y hy => (List.mem_erase_of_ne (fun e : y = x => by subst e; exact h1 hy)).mpr (hs y (by simp [hy]))
      rw [List.length_erase_of_mem hx] at this
      have : 0 < b.length := List.length_pos_of_mem hx
      simp
      omega
  have := sub (kvs.map (·.1)) (List.range m) h.nd fun x hx => by
    obtain ⟨z, hz, rfl⟩ := List.mem_map.mp hx
    exact List.mem_range.mpr (h.l z hz).1
  simpa using this
/-- known rows' numbers are small -/
def KvB (kvs : List (Nat × List Int)) : Prop := ∀ z ∈ kvs, Bz (eK kvs.length) z.2
theorem left_b {kvs : List (Nat × List Int)} {r : List Rat} (hr : Wd r) (hB : KvB kvs) : Bz (eK (kvs.length + 1)) (leftZ (sortK kvs) (wholeZ r)) := by
  have hp := sortK_perm kvs
  have := Bz.left (sortK kvs) (Bz.whole hr) (b := eK kvs.length) fun z hz => hB z (hp.mem_iff.mp hz)
  rw [hp.length_eq] at this
  exact this
theorem addB {kvs : List (Nat × List Int)} {r : List Rat} (hm : m ≤ 5) (h : KvOk m kvs) (hr : Wd r) (hB : KvB kvs) : KvB (addZ kvs (wholeZ r)) := by
  have h1 := left_b hr hB
  have h2 := kv_few h
  unfold addZ
  cases firstZ (leftZ (sortK kvs) (wholeZ r)) with
  | none => exact hB
  | some p =>
    intro z hz
    rw [List.length_append, List.length_singleton]
    rcases List.mem_append.mp hz with hz | hz
    · exact (hB z hz).up (eK_le (by omega)).1
    · simp at hz
      subst hz
      exact h1
/-! ### the program's -/
def zD (r : List Int) : D := .lst (r.map .int)
theorem bz_log {r : List Int} (h : Bz e r) (he : 0 < e) : ∀ x ∈ r, x.natAbs.log2 < e := fun x hx => log_lt (h x hx) he
theorem light12 {r : List Int} (hS : belows S.length S = true) (hfu : 1000000 < fu) (hl : r.length ≤ 1000) (hB : Bz 8000 r) : callF Ir.P fu (n + 2) 12 [.d (zD r)] S = .ok (.d (zD (lightZ r))) S := by
  have h6 : ∀ (a : Int), ∀ x ∈ r, callF Ir.P fu (n + 1) 7 [.d (.int a), .d (.int x)] S = .ok (.d (.int (Int.gcd a x))) S := fun a x hx => F6 hS (by have := bz_log hB (by decide) x hx; omega)
  suffices h : Tot (execSs ⟨callF Ir.P fu (n + 1), Ir.P, fu⟩ Ir.f12.body (startE Ir.f12.N.length [.d (zD r)]) S) fun f S' => f = .ret (.d (zD (lightZ r))) ∧ S' = S by
    obtain ⟨f, S', e, rfl, rfl⟩ := h.ex
    exact runD (fd := Ir.f12) rfl rfl rfl hS e
  have hg := gcdL_lt hB
  generalize callF Ir.P fu (n + 1) = cf at *
  have L := Tot.forF (set := setT ⟨cf, Ir.P, fu⟩ (.nm 2)) (body := execSs ⟨cf, Ir.P, fu⟩ Ir.f12b0) D.int (fun (g : Nat) x => Int.gcd (g : Int) x)
    (fun g η S' => S' = S ∧ ∃ w, η = [some (.d (zD r)), some (.d (.int (g : Nat))), w]) (all := r)
    (fun x hx g η S' => by
      rintro ⟨rfl, w, rfl⟩
      have e := h6 g x hx
      simp [getV, e]) r 0 [some (.d (zD r)), some (.d (.int 0)), none] S (fun _ h => h) ⟨rfl, _, rfl⟩
  simp [-List.map_map, Ir.f12, startE, getV, forSrc, zD] at L ⊢
  refine Tot.seq L ?_
  rintro f S' ⟨η', rfl, rfl, w, rfl⟩
  have hgL : r.foldl (fun (g : Nat) x => Int.gcd (g : Int) x) 0 = gcdL r := rfl
  simp only [hgL]
  by_cases h1 : 1 < gcdL r
  · have h2 : (1 : Int) < (gcdL r : Nat) := by omega
    have hfd : fdB (gcdL r : Int) = true := by
      simp only [fdB, decide_eq_true_eq]
      refine .inr ⟨by omega, ?_⟩
      rw [Int.natAbs_natCast]
      have := log_lt hg (by decide)
      omega
    have key := lcMap (C := ⟨cf, Ir.P, fu⟩) (i := 2) (e := .bin .fdiv (.var 2) (.var 1)) (η := [some (.d (.lst (r.map .int))), some (.d (.int (gcdL r : Nat))), none]) (S := S') D.int (fun x => .int (x.fdiv (gcdL r))) (zs := r) (by unfold line; omega) (by simp) (fun x hx => by simp [getV, hfd])
    simp [-List.map_map, getV, h2, wipeE, lcSrc] at key ⊢
    rw [key]
    simp [lightZ, h1]
  · have h2 : ¬ (1 : Int) < (gcdL r : Nat) := by omega
    simp [getV, h2, lightZ, h1]
end K07
/-! SH: the program's class of known rows. -/
namespace K07
open RI EU LinQ
variable {fu n m t a d : Nat} {S : Store} {kvs : List (Nat × List Int)} {r : List Rat}
theorem enum_map {α : Type} (f : α → D) (xs : List α) : ((xs.map f).mapIdx fun i x => D.tup [.int (i : Nat), x]) = xs.zipIdx.map fun z => .tup [.int (z.2 : Nat), f z.1] := by
  apply List.ext_getElem
  · simp
  · intro i h1 h2
    simp
theorem zip_first (r : List Int) : (r.zipIdx.filter fun z => decide (z.1 ≠ 0)).map (fun z => D.int (z.2 : Nat)) = ((List.range r.length).filter fun i => decide (r.getD i 0 ≠ 0)).map fun i => .int (i : Nat) := by
  have e : r.zipIdx = (List.range r.length).map fun i => (r.getD i 0, i) := by
    apply List.ext_getElem
    · simp
    · intro i h1 h2
      have hi : i < r.length := by simpa using h1
      simp [List.getD_eq_getElem?_getD, List.getElem?_eq_getElem hi]
  rw [e, List.filter_map, List.map_map]
  rfl
def firstD (r : List Int) : D := match firstZ r with
  | some p => .int (p : Nat)
  | none => .non
theorem lead13 {r : List Int} (hS : belows S.length S = true) (hl : r.length ≤ 1000) : callF Ir.P fu (n + 1) 13 [.d (zD r)] S = .ok (.d (firstD r)) S := by
  refine runD (fd := Ir.f13) rfl rfl rfl hS ?_
  generalize callF Ir.P fu n = cf
  have key := lcFil2 (C := ⟨cf, Ir.P, fu⟩) (i := 2) (j := 3) (e := .var 2) (c := .cmp .ne (.var 3) (.int 0)) (η := [some (.d (zD r)), none, none, none]) (S := S) (fun z : Int × Nat => .int z.2) (fun z => .int z.1) (fun z => .int (z.2 : Nat)) (fun z => decide (z.1 ≠ 0)) (zs := r.zipIdx) (by simp; unfold line; omega) (by simp) (by simp) (fun z hz => by simp [getV]) (fun z hz _ => by simp [getV])
  rw [zip_first, ← enum_map D.int r] at key
  have hfirst : firstD r = match (List.range r.length).filter fun i => decide (r.getD i 0 ≠ 0) with
    | a :: _ => .int (a : Nat)
    | [] => .non := by
    unfold firstD firstZ
    cases (List.range r.length).filter fun i => decide (r.getD i 0 ≠ 0) <;> rfl
  have hlen : ((List.range r.length).filter fun i => decide (r.getD i 0 ≠ 0)).length ≤ 1000 := Nat.le_trans (List.length_filter_le _ _) (by simpa using hl)
  rw [hfirst]
  simp only [zD] at key ⊢
  generalize (List.range r.length).filter (fun i => decide (r.getD i 0 ≠ 0)) = qs at *
  simp [-List.map_map, Ir.f13, startE, getV, wipeE, lcSrc] at key ⊢
  rw [key]
  cases qs with
  | nil => simp [getV]
  | cons q qs => simp [getV]
theorem den0 (q : Rat) : L2.atI [D.int q.num, D.int (q.den : Nat)] 0 = some (.int q.num) := rfl
theorem den1 (q : Rat) : L2.atI [D.int q.num, D.int (q.den : Nat)] 1 = some (.int (q.den : Nat)) := rfl
theorem log_sml {a : Nat} (h : a ≤ 5000) : a.log2 < 13 := log_lt (by omega) (by decide)
theorem bits_small {a b : Int} (ha : a.natAbs ≤ 5000) (hb : b.natAbs ≤ 5000) : bitsOk a b = true := by
  have := log_sml ha
  have := log_sml hb
  simp only [bitsOk, decide_eq_true_eq]
  omega
theorem fd_nat (a b : Nat) : ((a : Nat) : Int).fdiv ((b : Nat) : Int) = ((a / b : Nat) : Int) := by
  rw [Int.fdiv_eq_ediv_of_nonneg _ (by omega)]
  rfl
theorem whole11 (hS : belows S.length S = true) (hfu : 1000000 < fu) (hl : r.length ≤ 1000) (hr : Wd r) : callF Ir.P fu (n + 3) 11 [.d (rowQ r)] S = .ok (.d (zD (wholeZ r))) S := by
  have h7 : ∀ (x y : Nat), y ≤ 42 → callF Ir.P fu (n + 2) 7 [.d (.int x), .d (.int y)] S = .ok (.d (.int (Nat.gcd x y : Nat))) S := fun x y h => F6 hS (by
    have := log_sml (a := y) (by omega)
    rw [Int.natAbs_natCast]
    omega)
  have h12 : callF Ir.P fu (n + 2) 12 [.d (zD (wholeR r))] S = .ok (.d (zD (wholeZ r))) S := light12 hS hfu (by simpa [wholeR] using hl) ((Bz.wholeR hr).up (by decide))
  suffices h : Tot (execSs ⟨callF Ir.P fu (n + 2), Ir.P, fu⟩ Ir.f11.body (startE Ir.f11.N.length [.d (rowQ r)]) S) fun f S' => f = .ret (.d (zD (wholeZ r))) ∧ S' = S by
    obtain ⟨f, S', e, rfl, rfl⟩ := h.ex
    exact runD (fd := Ir.f11) rfl rfl rfl hS e
  generalize callF Ir.P fu (n + 2) = cf at *
  have hd42 : ∀ q ∈ r, 0 < q.den ∧ q.den ≤ 42 := fun q hq => ⟨Nat.pos_of_ne_zero q.den_nz, Nat.le_of_dvd (by decide) (hr q hq).1⟩
  have L := Tot.forF (set := setT ⟨cf, Ir.P, fu⟩ (.nm 2)) (body := execSs ⟨cf, Ir.P, fu⟩ Ir.f11b0) ratD (fun (b : Nat) q => Nat.lcm b q.den)
    (fun b η S' => (S' = S ∧ ∃ w, η = [some (.d (rowQ r)), some (.d (.int (b : Nat))), w]) ∧ b ∣ 42) (all := r)
    (fun q hq b η S' => by
      rintro ⟨⟨rfl, w, rfl⟩, hb⟩
      have hq2 := hd42 q hq
      have hb2 : 0 < b ∧ b ≤ 42 := ⟨Nat.pos_of_dvd_of_pos hb (by decide), Nat.le_of_dvd (by decide) hb⟩
      have e := h7 b q.den hq2.2
      have bt := bits_small (a := (b : Int)) (b := (q.den : Nat)) (by rw [Int.natAbs_natCast]; omega) (by rw [Int.natAbs_natCast]; omega)
      have g0 : 0 < Nat.gcd b q.den := Nat.gcd_pos_of_pos_left _ hb2.1
      have g1 : Nat.gcd b q.den ≤ b := Nat.gcd_le_left _ hb2.1
      have hfd : fdB ((Nat.gcd b q.den : Nat) : Int) = true := by
        simp only [fdB, decide_eq_true_eq]
        refine .inr ⟨by omega, ?_⟩
        rw [Int.natAbs_natCast]
        have := log_sml (a := Nat.gcd b q.den) (by omega)
        omega
      have hL : ((b : Int) * (q.den : Nat)).fdiv ((Nat.gcd b q.den : Nat) : Int) = (Nat.lcm b q.den : Nat) := by
        rw [← Int.natCast_mul, fd_nat]
        rfl
      have h42 : Nat.lcm b q.den ∣ 42 := Nat.lcm_dvd hb (hr q hq).1
      simp [getV, ratD, den1, e, bt, hfd, hL, h42])
    r 1 [some (.d (rowQ r)), some (.d (.int 1)), none] S (fun _ h => h) ⟨⟨rfl, _, rfl⟩, Nat.one_dvd _⟩
  have hb := bot_pos hr
  have key := lcMap (C := ⟨cf, Ir.P, fu⟩) (i := 2) (e := .bin .mul (.ix (.var 2) (.int 0)) (.bin .fdiv (.var 1) (.ix (.var 2) (.int 1)))) (η := [some (.d (rowQ r)), some (.d (.int (botL r : Nat))), none]) (S := S) ratD (fun q => .int (q.num * ((botL r / q.den : Nat) : Int))) (zs := r) (by unfold line; omega) (by simp) (fun q hq => by
      have hq2 := hd42 q hq
      have hfd : fdB ((q.den : Nat) : Int) = true := by
        simp only [fdB, decide_eq_true_eq]
        refine .inr ⟨by omega, ?_⟩
        rw [Int.natAbs_natCast]
        have := log_sml (a := q.den) (by omega)
        omega
      have h2 : botL r / q.den ≤ 42 := Nat.le_trans (Nat.div_le_self _ _) hb.2
      have bt : bitsOk q.num ((botL r / q.den : Nat) : Int) = true := bits_small (by have := (hr q hq).2; omega) (by rw [Int.natAbs_natCast]; omega)
      have hL := fd_nat (botL r) q.den
      simp [-Int.natCast_ediv, getV, ratD, den1, den0, hfd, hL, bt])
  simp [-List.map_map, -Int.natCast_ediv, Ir.f11, startE, getV, forSrc, rowQ] at L key ⊢
  refine Tot.seq L ?_
  rintro f S' ⟨η', rfl, ⟨rfl, w, rfl⟩, _⟩
  have hbL : r.foldl (fun (b : Nat) q => Nat.lcm b q.den) 1 = botL r := rfl
  simp only [hbL]
  have hzz : D.lst (r.map fun q => D.int (q.num * ((botL r / q.den : Nat) : Int))) = zD (wholeR r) := by simp [zD, wholeR]
  simp [-List.map_map, -Int.natCast_ediv, getV, wipeE, lcSrc] at key ⊢
  rw [key]
  simp only [bnd_ok, noExc_ok, Res.bind_ok]
  simp [-List.map_map, -Int.natCast_ediv, hzz, h12]
end K07
/-! SI: the program's class of known rows, walked. -/
namespace K07
open RI EU LinQ
variable {fu n m t a d e1 e2 : Nat} {S : Store} {kvs : List (Nat × List Int)} {r : List Rat}
def kvD (z : Nat × List Int) : D × D := (.int (z.1 : Nat), zD z.2)
/-- an object of the class at a, its dict at d -/
structure St (S : Store) (a d : Nat) (kvs : List (Nat × List Int)) : Prop where
  o : S[a]? = some (.ins 4 [(2, .loc d)])
  k : S[d]? = some (.dct (kvs.map kvD))
theorem dlook_kv : ∀ {kvs : List (Nat × List Int)}, (kvs.map (·.1)).Nodup → ∀ z ∈ kvs, dlook (kvs.map kvD) (.int (z.1 : Nat)) = some (zD z.2)
  | y :: kvs, hn, z, hz => by
    obtain ⟨h1, h2⟩ := List.nodup_cons.mp hn
    unfold dlook
    rw [List.map_cons, List.find?_cons]
    rcases List.mem_cons.mp hz with rfl | hz
    · simp [kvD, keq]
    · have hne : y.1 ≠ z.1 := fun e => h1 (List.mem_map.mpr ⟨z, hz, e.symm⟩)
      have hk : keq (kvD y).1 (.int (z.1 : Nat)) = false := by simp [kvD, keq]; omega
      rw [hk]
      exact dlook_kv h2 z hz
theorem dget_kv (h : St S a d kvs) (hn : (kvs.map (·.1)).Nodup) {z : Nat × List Int} (hz : z ∈ kvs) : dgetD (.loc d) (.d (.int (z.1 : Nat))) S = some (some (zD z.2)) := by
  simp [dgetD, keyD, dicOf, h.k, dlook_kv hn z hz]
theorem dput_kv {p : Nat} {l : List Int} (hp : p ∉ kvs.map (·.1)) : dput (kvs.map kvD) (.int (p : Nat)) (zD l) = (kvs ++ [(p, l)]).map kvD := by
  have : ((kvs.map kvD).any fun q => keq q.1 (.int (p : Nat))) = false := by
    rw [Bool.eq_false_iff]
    intro h
    obtain ⟨q, hq, e⟩ := List.any_eq_true.mp h
    obtain ⟨z, hz, rfl⟩ := List.mem_map.mp hq
    simp [kvD, keq] at e
    exact hp (List.mem_map.mpr ⟨z, hz, by omega⟩)
  unfold dput
  rw [this]
  simp [kvD]
theorem at_z {l : List Int} {c : Nat} (h : c < l.length) : L2.atI (l.map D.int) (c : Int) = some (.int (l.getD c 0)) := by
  refine atJ_map D.int ?_
  rw [List.getD_eq_getElem?_getD, List.getElem?_eq_getElem h]
  rfl
theorem eK_in {i : Nat} (hi : i ≤ t) (ht : t ≤ 5) : 18 + i * (eK t + 1) ≤ 6193 ∧ eK t ≤ 6193 := by
  have h1 := (eK_le (t := t) ht)
  have h2 : eK (t + 1) = 18 + t * (eK t + 1) := rfl
  have := Nat.mul_le_mul_right (eK t + 1) hi
  omega
theorem step15 {cf : Nat → List W → Store → Res W} {l : List Int} {z : Nat × List Int} {w1 : Option W} {w3 w4 w5 w6 : Option W} (h12 : ∀ l : List Int, l.length ≤ 1000 → Bz 8000 l → cf 12 [.d (zD l)] S = .ok (.d (zD (lightZ l))) S)
    (h : St S a d kvs) (hn : (kvs.map (·.1)).Nodup) (hz : z ∈ kvs) (hm : m ≤ 1000) (hl : l.length = m) (hzl : z.1 < m ∧ z.2.length = m) (b1 : Bz e1 l) (b2 : Bz e2 z.2) (he : e1 + e2 + 1 ≤ 6500) :
    Tot (execSs ⟨cf, Ir.P, fu⟩ Ir.f15b0 [some (.loc a), w1, some (.d (zD l)), some (.d (.int (z.1 : Nat))), w4, w5, w6, none, none] S) fun f S' => S' = S ∧ ∃ η', f = .nx η' ∧ ∃ w4 w5 w6, η' = [some (.loc a), w1, some (.d (zD (stepZ l z))), some (.d (.int (z.1 : Nat))), w4, w5, w6, none, none] := by
  have al := at_z (l := l) (c := z.1) (by omega)
  have az := at_z (l := z.2) (c := z.1) (by omega)
  have hg := dget_kv h hn hz
  by_cases h0 : l.getD z.1 0 = 0
  · have hs : stepZ l z = l := by unfold stepZ; rw [if_pos h0]
    rw [hs]
    rw [h0] at al
    simp [getV, al, zD]
  · have hs : stepZ l z = lightZ (crossZ l z) := by unfold stepZ; rw [if_neg h0]
    have e12 := h12 (crossZ l z) (by rw [cross_len hl hzl.2]; exact hm) ((b1.cross b2).up (by omega))
    have b1 := b1.up (b := 6500) (by omega)
    have b2 := b2.up (b := 6500) (by omega)
    have k1 := b1.at z.1
    have k2 := b2.at z.1
    have key := lcMap2 (C := ⟨cf, Ir.P, fu⟩) (i := 7) (j := 8) (e := .bin .sub (.bin .mul (.var 7) (.var 6)) (.bin .mul (.var 8) (.var 5))) (η := [some (.loc a), w1, some (.d (zD l)), some (.d (.int (z.1 : Nat))), some (.d (zD z.2)), some (.d (.int (l.getD z.1 0))), some (.d (.int (z.2.getD z.1 0))), none, none]) (S := S) (fun p : Int × Int => .int p.1) (fun p => .int p.2) (fun p => .int (p.1 * z.2.getD z.1 0 - p.2 * l.getD z.1 0)) (zs := l.zip z.2) (by simp; unfold line; omega) (by simp) (by simp) (fun p hp => by
      have g1 := b1 p.1 (List.of_mem_zip hp).1
      have g2 := b2 p.2 (List.of_mem_zip hp).2
      have bt : ∀ x y : Int, x.natAbs < 2 ^ 6500 → y.natAbs < 2 ^ 6500 → bitsOk x y = true := fun x y hx hy => by
        have := log_lt hx (by decide)
        have := log_lt hy (by decide)
        simp only [bitsOk, decide_eq_true_eq]
        omega
      have t1 := bt _ _ g1 k2
      have t2 := bt _ _ g2 k1
      simp only [List.getD_eq_getElem?_getD] at t1 t2 ⊢
      simp [getV, t1, t2])
    have hzip : (((l.map D.int).zip (z.2.map D.int)).map fun p => D.tup [p.1, p.2]) = (l.zip z.2).map fun p => .tup [.int p.1, .int p.2] := by
      rw [List.zip_map, List.map_map]
      rfl
    have hcr : D.lst ((l.zip z.2).map fun p => D.int (p.1 * z.2.getD z.1 0 - p.2 * l.getD z.1 0)) = zD (crossZ l z) := by simp [zD, crossZ]
    rw [hs]
    have hn0 : ¬ l.getD z.1 0 = 0 := h0
    generalize l.getD z.1 0 = top at *
    generalize z.2.getD z.1 0 = bot at *
    have hf : fldD Ir.P (.loc a) 2 S = some (.loc d) := by simp [fldD, h.o, show ordC Ir.P 4 = true from rfl, lookN]
    simp only [zD] at *
    simp [-List.map_map, -List.zip_map, getV, al, az, hn0, hf, hg]
    simp [-List.map_map, -List.zip_map, getV, wipeE, hzip, lcSrc] at key ⊢
    rw [key]
    simp only [bnd_ok, noExc_ok, Res.bind_ok]
    simp [-List.map_map, hcr, e12]
theorem left15 (hS : belows S.length S = true) (hfu : 1000000 < fu) (h : St S a d kvs) (hm : m ≤ 5) (hK : KvOk m kvs) (hB : KvB kvs) (hr : Wd r) (hl : r.length = m) :
    callF Ir.P fu (n + 4) 15 [.loc a, .d (rowQ r)] S = .ok (.d (zD (leftZ (sortK kvs) (wholeZ r)))) S := by
  have h12 : ∀ l : List Int, l.length ≤ 1000 → Bz 8000 l → callF Ir.P fu (n + 3) 12 [.d (zD l)] S = .ok (.d (zD (lightZ l))) S := fun l h1 h2 => light12 hS hfu h1 h2
  have h11 := whole11 (n := n) hS hfu (by omega) hr
  suffices h : Tot (execSs ⟨callF Ir.P fu (n + 3), Ir.P, fu⟩ Ir.f15.body (startE Ir.f15.N.length [.loc a, .d (rowQ r)]) S) fun f S' => f = .ret (.d (zD (leftZ (sortK kvs) (wholeZ r)))) ∧ S' = S by
    obtain ⟨f, S', e, rfl, rfl⟩ := h.ex
    exact runD (fd := Ir.f15) rfl rfl rfl hS e
  generalize callF Ir.P fu (n + 3) = cf at *
  have hp := sortK_perm kvs
  have hfew := kv_few hK
  have L := Tot.forR (set := setT ⟨cf, Ir.P, fu⟩ (.nm 3)) (body := execSs ⟨cf, Ir.P, fu⟩ Ir.f15b0) (fun z : Nat × List Int => .int (z.1 : Nat)) stepZ
    (fun zs l η S' => (S' = S ∧ ∃ w3 w4 w5 w6, η = [some (.loc a), some (.d (rowQ r)), some (.d (zD l)), w3, w4, w5, w6, none, none]) ∧ l.length = m ∧ (∃ i, i + zs.length = kvs.length ∧ Bz (18 + i * (eK kvs.length + 1)) l) ∧ ∀ z ∈ zs, z ∈ kvs)
    (fun z zs l η S' => by
      rintro ⟨⟨rfl, w3, w4, w5, w6, rfl⟩, hll, ⟨i, hi, hb⟩, hz⟩
      have hzk := hz z (by simp)
      simp only [List.length_cons] at hi
      have e1 := eK_in (i := i + 1) (t := kvs.length) (by omega) (by omega)
      have B := step15 (fu := fu) (w1 := some (.d (rowQ r))) (w3 := w3) (w4 := w4) (w5 := w5) (w6 := w6) h12 h hK.nd hzk (by omega) hll (hK.l z hzk) hb (hB z hzk) (by rw [Nat.succ_mul] at e1; omega)
      rw [st_nm, if_pos (by simp), bnd_ok]
      refine B.mono ?_
      rintro f S2 ⟨rfl, η', rfl, v4, v5, v6, rfl⟩
      refine ⟨_, rfl, ⟨rfl, _, _, _, _, rfl⟩, stepZ_len hll (hK.l z hzk).2, ⟨i + 1, by omega, ?_⟩, fun y hy => hz y (by simp [hy])⟩
      have := hb.step (hB z hzk)
      rw [Nat.succ_mul]
      exact this.up (by omega))
    (sortK kvs) (wholeZ r) [some (.loc a), some (.d (rowQ r)), some (.d (zD (wholeZ r))), none, none, none, none, none, none] S ⟨⟨rfl, _, _, _, _, rfl⟩, by rw [(whole_ok hr).1]; exact hl, ⟨0, by rw [hp.length_eq]; omega, by simpa using Bz.whole hr⟩, fun z hz => hp.mem_iff.mp hz⟩
  have hf : fldD Ir.P (.loc a) 2 S = some (.loc d) := by simp [fldD, h.o, show ordC Ir.P 4 = true from rfl, lookN]
  have hd : dicOf (.loc d) S = some (kvs.map kvD) := by simp [dicOf, h.k]
  have hso : (sortI (kvs.map fun z => (z.1 : Int))).map D.int = (sortK kvs).map fun z => .int (z.1 : Nat) := by rw [← sortK_key, List.map_map]; rfl
  have hin : intsOf (kvs.map fun z => D.int (z.1 : Nat)) = some (kvs.map fun z => (z.1 : Int)) := by
    have := RI.intsOf_map (kvs.map fun z => (z.1 : Int))
    rw [List.map_map] at this
    exact this
  have hkd : (kvs.map kvD).map (·.1) = kvs.map fun z => D.int (z.1 : Nat) := by rw [List.map_map]; rfl
  have hlen : kvs.length < 64 := by omega
  simp [-List.map_map, Ir.f15, startE, getV, h11, hf, hd, hkd, lstOf, hin, hso, hlen, forSrc]
  refine Tot.seq L ?_
  rintro f S' ⟨η', rfl, ⟨rfl, w3, w4, w5, w6, rfl⟩, _⟩
  simp [getV, leftZ]
end K07
/-! SJ: rows taken in. -/
namespace RI
@[simp] theorem st_dsub {C : Ctx} {η : Env} {S : Store} {o i : IE} {w : W} : setT C (.dsub o i) w η S = ((evalP C o).1 η S).bnd fun x S1 => ((evalP C i).1 η S1).bnd fun k S2 => (setDic x k w S2).bnd fun _ S3 => .ok η S3 := id rfl
end RI
namespace K07
open RI EU LinQ
variable {fu n m t a d e1 e2 : Nat} {S : Store} {kvs : List (Nat × List Int)} {r : List Rat}
theorem belows_dct {kv : List (D × D)} (hS : belows S.length S = true) : belows (S.set d (.dct kv)).length (S.set d (.dct kv)) = true := by
  rw [List.length_set]
  simp only [belows, List.all_eq_true] at *
  intro c hc
  rcases List.mem_or_eq_of_mem_set hc with hc | rfl
  · exact hS c hc
  · rfl
theorem St.ne (h : St S a d kvs) : a ≠ d := fun e => by
  have h1 := h.o
  rw [e, h.k] at h1
  exact absurd h1 (by simp)
theorem St.set (h : St S a d kvs) (kvs' : List (Nat × List Int)) : St (S.set d (.dct (kvs'.map kvD))) a d kvs' := by
  have hd : d < S.length := by
    have := List.getElem?_eq_some_iff.mp h.k
    exact this.1
  exact ⟨by rw [List.getElem?_set_ne (fun e => h.ne e.symm)]; exact h.o, by rw [List.getElem?_set_self hd]⟩
theorem St.same (h : St S a d kvs) : S.set d (.dct (kvs.map kvD)) = S := by
  obtain ⟨h1, h2⟩ := List.getElem?_eq_some_iff.mp h.k
  rw [← h2]
  exact List.set_getElem_self h1
theorem meth15 (h : St S a d kvs) : methOf Ir.P 4 (.loc a) 1 S = some 15 := by
  have hc : Ir.P.cls[4]? = some { name := "Steps", init := some 14, meths := [(3, 16), (8, 17), (4, 15), (9, 18)], frozen := false, sups := [4], exc := none, xin := none } := rfl
  have hf : Ir.P.fns[15]? = some Ir.f15 := rfl
  unfold methOf
  simp only [clsOf, h.o, hc, lookN]
  simp [hf, show ordC Ir.P 4 = true from rfl, noFld, h.o, lookN, Ir.f15]
theorem meth16 (h : St S a d kvs) : methOf Ir.P 3 (.loc a) 1 S = some 16 := by
  have hc : Ir.P.cls[4]? = some { name := "Steps", init := some 14, meths := [(3, 16), (8, 17), (4, 15), (9, 18)], frozen := false, sups := [4], exc := none, xin := none } := rfl
  have hf : Ir.P.fns[16]? = some Ir.f16 := rfl
  unfold methOf
  simp only [clsOf, h.o, hc, lookN]
  simp [hf, show ordC Ir.P 4 = true from rfl, noFld, h.o, lookN, Ir.f16]
/-- it is free -/
def freeB (kvs : List (Nat × List Int)) (r : List Rat) : Bool := (firstZ (leftZ (sortK kvs) (wholeZ r))).isSome
/-- known rows and what they stand for -/
structure KOk (m : Nat) (kvs : List (Nat × List Int)) (seen : List V) : Prop where
  k : KvOk m kvs
  b : KvB kvs
  e : Eqv (vecsZ kvs) seen
theorem KOk.add {seen : List V} (h : KOk m kvs seen) (hm : m ≤ 5) (hr : Wd r) (hl : r.length = m) : KOk m (addZ kvs (wholeZ r)) (seen ++ [vec r]) ∧ ∀ vs, rk seen (vec r :: vs) = rk (seen ++ [vec r]) vs + if freeB kvs r = true then 1 else 0 := by
  obtain ⟨h1, c, hc, h2⟩ := whole_ok hr
  obtain ⟨g1, g2, g3⟩ := addZ_ok h.k h.e (h1.trans hl) hc h2
  exact ⟨⟨g1, addB hm h.k hr h.b, g2⟩, g3⟩
theorem leftZ_len {kvs : List (Nat × List Int)} (hK : KvOk m kvs) {l : List Int} (hl : l.length = m) : (leftZ (sortK kvs) l).length = m := by
  have : ∀ (fs : List (Nat × List Int)) (l : List Int), (∀ z ∈ fs, z.2.length = m) → l.length = m → (leftZ fs l).length = m := by
    intro fs
    induction fs with
    | nil => intro l _ hl; exact hl
    | cons z fs ih =>
      intro l hz hl
      exact ih _ (fun y hy => hz y (by simp [hy])) (stepZ_len hl (hz z (by simp)))
  exact this _ _ (fun z hz => (hK.l z ((sortK_perm kvs).mem_iff.mp hz)).2) hl
theorem add16 (hS : belows S.length S = true) (hfu : 1000000 < fu) (h : St S a d kvs) (hm : m ≤ 5) {seen : List V} (hK : KOk m kvs seen) (hr : Wd r) (hl : r.length = m) :
    callF Ir.P fu (n + 5) 16 [.loc a, .d (rowQ r)] S = .ok (.d (.bl (freeB kvs r))) (S.set d (.dct ((addZ kvs (wholeZ r)).map kvD))) := by
  have e15 := left15 (n := n) hS hfu h hm hK.k hK.b hr hl
  have hll : (leftZ (sortK kvs) (wholeZ r)).length = m := leftZ_len hK.k ((whole_ok hr).1.trans hl)
  have e13 : callF Ir.P fu (n + 4) 13 [.d (zD (leftZ (sortK kvs) (wholeZ r)))] S = .ok (.d (firstD (leftZ (sortK kvs) (wholeZ r)))) S := lead13 hS (by omega)
  have hnd := (hK.add hm hr hl).1.k.nd
  have hfew := kv_few hK.k
  rw [runT (fd := Ir.f16) rfl rfl]
  generalize callF Ir.P fu (n + 4) = cf at *
  have hm15 := meth15 h
  have hB := belows_dct (d := d) (kv := (addZ kvs (wholeZ r)).map kvD) hS
  have hf : fldD Ir.P (.loc a) 2 S = some (.loc d) := by simp [fldD, h.o, show ordC Ir.P 4 = true from rfl, lookN]
  have hadd : addZ kvs (wholeZ r) = match firstZ (leftZ (sortK kvs) (wholeZ r)) with
    | some p => kvs ++ [(p, leftZ (sortK kvs) (wholeZ r))]
    | none => kvs := rfl
  have hle : IEs.len (.cons (.var 1) .nil) = 1 := rfl
  unfold freeB
  unfold firstD at e13
  generalize leftZ (sortK kvs) (wholeZ r) = L at *
  cases hp : firstZ L with
  | none =>
    rw [hp] at hadd e13
    simp only at hadd e13
    rw [hadd, h.same]
    simp [Ir.f16, startE, getV, hle, hm15, e15, e13, finish, close, freeze, hS]
  | some p =>
    rw [hp] at hadd e13
    simp only at hadd e13
    rw [hadd] at hB hnd ⊢
    have hpn : p ∉ kvs.map (·.1) := fun hm => by
      rw [List.map_append, List.nodup_append] at hnd
      exact hnd.2.2 p hm p (by simp) rfl
    have hput := dput_kv (l := L) hpn
    have hln : kvs.length < line := by unfold line; omega
    simp only [List.length_set] at hB
    have htk : (S.set d (.dct ((kvs ++ [(p, L)]).map kvD))).take S.length = S.set d (.dct ((kvs ++ [(p, L)]).map kvD)) := List.take_of_length_le (by simp)
    generalize hT : S.set d (.dct ((kvs ++ [(p, L)]).map kvD)) = T at *
    have hsd : setDic (.loc d) (.d (.int (p : Nat))) (.d (zD L)) S = .ok () T := by
      simp [-List.map_append, setDic, keyD, h.k, hln, hput, hT]
    have hTl : T.length = S.length := by rw [← hT]; simp
    simp [Ir.f16, startE, getV, hle, hm15, e15, e13, hf, hsd, finish, close, freeze, htk, hB, hTl]
end K07
/-! SK: an object of known rows made; rows that are free of others. -/
namespace K07
open RI EU LinQ
variable {fu n m : Nat} {S : Store} {kvs : List (Nat × List Int)} {r : List Rat}
def foldK (rs : List (List Rat)) : List (Nat × List Int) := rs.foldl (fun k r => addZ k (wholeZ r)) []
/-- the store with an object of the class behind -/
def stS (S : Store) (kvs : List (Nat × List Int)) : Store := S ++ [.ins 4 [(2, .loc (S.length + 1))], .dct (kvs.map kvD)]
theorem stS_st : St (stS S kvs) S.length (S.length + 1) kvs := ⟨by simp [stS], by simp [stS]⟩
theorem stS_set {kvs' : List (Nat × List Int)} : (stS S kvs).set (S.length + 1) (.dct (kvs'.map kvD)) = stS S kvs' := by unfold stS; rw [set_len1]
theorem stS_bel (hS : belows S.length S = true) : belows (stS S kvs).length (stS S kvs) = true := by
  have h1 : (stS S kvs).length = S.length + 2 := by simp [stS]
  have h2 := belows_mono (b := S.length + 2) (by omega) hS
  rw [h1]
  unfold stS belows at *
  rw [List.all_append, h2]
  simp [cellBelow, wBelow]
def RsOk (m : Nat) (rs : List (List Rat)) : Prop := ∀ r ∈ rs, Wd r ∧ r.length = m
theorem KOk.nil : KOk m [] [] := ⟨KvOk.nil, fun z hz => by simp at hz, Eqv.refl []⟩
theorem KOk.fold (hm : m ≤ 5) : ∀ (rs : List (List Rat)) (kvs : List (Nat × List Int)) (seen : List V), KOk m kvs seen → RsOk m rs → KOk m (rs.foldl (fun k r => addZ k (wholeZ r)) kvs) (seen ++ rs.map vec)
  | [], kvs, seen, h, _ => by simpa using h
  | r :: rs, kvs, seen, h, hr => by
    have h1 := hr r (by simp)
    have := KOk.fold hm rs _ _ (h.add hm h1.1 h1.2).1 fun y hy => hr y (by simp [hy])
    simpa using this
theorem foldK_ok (hm : m ≤ 5) {rs : List (List Rat)} (h : RsOk m rs) : KOk m (foldK rs) (rs.map vec) := by
  have := KOk.fold hm rs [] [] KOk.nil h
  rw [List.nil_append] at this
  exact this
theorem init14 {rs : List (List Rat)} (hS : belows S.length S = true) (hfu : 1000000 < fu) (hm : m ≤ 5) (hr : RsOk m rs) :
    callF Ir.P fu (n + 6) 14 [.loc S.length, .d (.lst (rs.map rowQ))] (S ++ [.ins 4 []]) = .ok (.d .non) (stS S (foldK rs)) := by
  have h16 : ∀ {kvs : List (Nat × List Int)} {seen : List V} {r : List Rat}, KOk m kvs seen → Wd r → r.length = m → callF Ir.P fu (n + 5) 16 [.loc S.length, .d (rowQ r)] (stS S kvs) = .ok (.d (.bl (freeB kvs r))) (stS S (addZ kvs (wholeZ r))) := fun hK hr hl => by
    have := add16 (n := n) (stS_bel hS) hfu stS_st hm hK hr hl
    rw [stS_set] at this
    exact this
  rw [runT (fd := Ir.f14) rfl rfl]
  generalize callF Ir.P fu (n + 5) = cf at *
  have L := Tot.forR (set := setT ⟨cf, Ir.P, fu⟩ (.nm 2)) (body := execSs ⟨cf, Ir.P, fu⟩ Ir.f14b0) rowQ (fun k r => addZ k (wholeZ r))
    (fun zs kvs η S' => (S' = stS S kvs ∧ ∃ w, η = [some (.loc S.length), some (.d (.lst (rs.map rowQ))), w]) ∧ (∃ seen, KOk m kvs seen) ∧ RsOk m zs)
    (fun r zs kvs η S' => by
      rintro ⟨⟨rfl, w, rfl⟩, ⟨seen, hK⟩, hz⟩
      obtain ⟨h1, h2⟩ := hz r (by simp)
      have e := h16 hK h1 h2
      have hle : IEs.len (.cons (.var 2) .nil) = 1 := rfl
      have hm16 := meth16 (stS_st (S := S) (kvs := kvs))
      simp [getV, hle, hm16, e]
      exact ⟨⟨_, (hK.add hm h1 h2).1⟩, fun y hy => hz y (by simp [hy])⟩)
    rs [] [some (.loc S.length), some (.d (.lst (rs.map rowQ))), none] (stS S []) ⟨⟨rfl, _, rfl⟩, ⟨[], KOk.nil⟩, hr⟩
  have oc : ordC Ir.P 4 = true := rfl
  have hsf : setFld Ir.P (.loc S.length) 2 (.loc (S.length + 1)) (S ++ [.ins 4 [], .dct []]) = .ok () (stS S []) := by
    simp [setFld, oc, putN, stS]
  have h : Tot (execSs ⟨cf, Ir.P, fu⟩ Ir.f14.body (startE Ir.f14.N.length [.loc S.length, .d (.lst (rs.map rowQ))]) (S ++ [.ins 4 []])) fun f S' => ∃ η', f = .nx η' ∧ S' = stS S (foldK rs) := by
    simp [-List.map_map, Ir.f14, startE, getV, hsf, forSrc]
    refine Tot.seq L ?_
    rintro f S' ⟨η', rfl, ⟨rfl, w, rfl⟩, _⟩
    simp
    rfl
  obtain ⟨f, S', e, η', rfl, rfl⟩ := h.ex
  rw [e]
  simp [finish, close, Ir.f14]
theorem mk4 {rs : List (List Rat)} (hS : belows S.length S = true) (hfu : 1000000 < fu) (hm : m ≤ 5) (hr : RsOk m rs) : mkW ⟨callF Ir.P fu (n + 6), Ir.P, fu⟩ 4 [.d (.lst (rs.map rowQ))] S = .ok (.loc S.length) (stS S (foldK rs)) := by
  have e := init14 (n := n) hS hfu hm hr
  have hc : Ir.P.cls[4]? = some { name := "Steps", init := some 14, meths := [(3, 16), (8, 17), (4, 15), (9, 18)], frozen := false, sups := [4], exc := none, xin := none } := rfl
  unfold mkW
  simp only [hc]
  rw [e]
  simp
/-- which are free of what is known and of those ahead -/
def freeL : List (Nat × List Int) → Nat → List (List Rat) → List Nat
  | _, _, [] => []
  | kvs, i, r :: rs => (if freeB kvs r = true then [i] else []) ++ freeL (addZ kvs (wholeZ r)) (i + 1) rs
theorem freeL_rk (hm : m ≤ 5) : ∀ (rs : List (List Rat)) (kvs : List (Nat × List Int)) (seen : List V) (i : Nat), KOk m kvs seen → RsOk m rs → (freeL kvs i rs).length = rk seen (rs.map vec)
  | [], _, _, _, _, _ => rfl
  | r :: rs, kvs, seen, i, h, hr => by
    have h1 := hr r (by simp)
    obtain ⟨g1, g2⟩ := h.add hm h1.1 h1.2
    have ih := freeL_rk hm rs _ _ (i + 1) g1 fun y hy => hr y (by simp [hy])
    rw [List.map_cons, g2, ← ih]
    simp only [freeL, List.length_append]
    split <;> simp <;> omega
theorem freeL_lt : ∀ (rs : List (List Rat)) (kvs : List (Nat × List Int)) (i : Nat), ∀ j ∈ freeL kvs i rs, i ≤ j ∧ j < i + rs.length
  | [], _, _, j, h => by simp [freeL] at h
  | r :: rs, kvs, i, j, h => by
    simp only [freeL, List.mem_append] at h
    simp only [List.length_cons]
    rcases h with h | h
    · split at h
      · simp at h; omega
      · simp at h
    · have := freeL_lt rs _ _ j h
      omega
theorem free19 {rows safe : List (List Rat)} (hS : belows S.length S = true) (hfu : 1000000 < fu) (hm : m ≤ 5) (hr : RsOk m rows) (hl : rows.length ≤ 1000) (hs : RsOk m safe) :
    callF Ir.P fu (n + 7) 19 [.d (.lst (rows.map rowQ)), .d (.lst (safe.map rowQ))] S = .ok (.d (.lst ((freeL (foldK safe) 0 rows).map fun i => .int (i : Nat)))) S := by
  have h16 : ∀ {kvs : List (Nat × List Int)} {seen : List V} {r : List Rat}, KOk m kvs seen → Wd r → r.length = m → callF Ir.P fu (n + 6) 16 [.loc S.length, .d (rowQ r)] (stS S kvs) = .ok (.d (.bl (freeB kvs r))) (stS S (addZ kvs (wholeZ r))) := fun hK hr hl => by
    have := add16 (n := n + 1) (stS_bel hS) hfu stS_st hm hK hr hl
    rw [stS_set] at this
    exact this
  have hmk := mk4 (n := n) (fu := fu) hS hfu hm hs
  refine runDT (fd := Ir.f19) rfl rfl rfl hS ?_
  generalize callF Ir.P fu (n + 6) = cf at *
  have L := Tot_lcI (set := setT ⟨cf, Ir.P, fu⟩ (.tup (.cons (.nm 3) (.cons (.nm 4) .nil)))) (tst := evalC ⟨cf, Ir.P, fu⟩ (.yes (.meth (.var 2) 3 (.cons (.var 4) .nil)))) (elt := (evalP ⟨cf, Ir.P, fu⟩ (.var 3)).1)
    (η := [some (.d (.lst (rows.map rowQ))), some (.d (.lst (safe.map rowQ))), some (.loc S.length), none, none])
    (fun ys acc S' => ∃ (zs : List (List Rat)) (i : Nat) (kvs : List (Nat × List Int)) (seen : List V), ys = (zs.zipIdx i).map (fun z => .tup [.int (z.2 : Nat), rowQ z.1]) ∧ acc ++ (freeL kvs i zs).map (fun i => D.int (i : Nat)) = (freeL (foldK safe) 0 rows).map (fun i => .int (i : Nat)) ∧ S' = stS S kvs ∧ KOk m kvs seen ∧ RsOk m zs ∧ acc.length + zs.length ≤ 1000)
    (fun y ys acc S' => by
      rintro ⟨zs, i, kvs, seen, hy, ha, rfl, hK, hz, hc⟩
      cases zs with
      | nil => simp at hy
      | cons r zs =>
        obtain ⟨h1, h2⟩ := hz r (by simp)
        have e := h16 hK h1 h2
        have hle : IEs.len (.cons (.var 4) .nil) = 1 := rfl
        have hm16 := meth16 (stS_st (S := S) (kvs := kvs))
        simp only [List.zipIdx_cons, List.map_cons, List.cons.injEq] at hy
        obtain ⟨rfl, rfl⟩ := hy
        simp only [List.length_cons] at hc
        have hln : acc.length < line := by unfold line; omega
        have g1 := (hK.add hm h1 h2).1
        have hz' : RsOk m zs := fun y hy => hz y (by simp [hy])
        rw [lcTurn]
        simp only [bind_bnd]
        simp only [freeL] at ha
        cases hf : freeB kvs r with
        | true =>
          rw [hf] at e
          simp [hf] at ha
          simp [ec_yes, getV, hle, hm16, e, hln]
          exact ⟨zs, i + 1, rfl, addZ kvs (wholeZ r), by simpa using ha, rfl, ⟨_, g1⟩, hz', by omega⟩
        | false =>
          rw [hf] at e
          simp [hf] at ha
          simp [ec_yes, getV, hle, hm16, e, hln]
          exact ⟨zs, i + 1, rfl, addZ kvs (wholeZ r), by simpa using ha, rfl, ⟨_, g1⟩, hz', by omega⟩)
    (rows.zipIdx.map fun z => .tup [.int (z.2 : Nat), rowQ z.1]) [] (stS S (foldK safe)) ⟨rows, 0, _, _, rfl, by simp, rfl, foldK_ok hm hs, hr, by simpa using hl⟩
  have hen := enum_map rowQ rows
  simp [-List.map_map, Ir.f19, startE, getV, hmk, wipeE, lcSrc, hen]
  refine Tot.seq L ?_
  rintro zs S' ⟨ws, i, kvs, seen, hw, ha, rfl, _⟩
  cases ws with
  | cons w ws => simp at hw
  | nil =>
    simp [freeL] at ha
    simp [ha]
    exact ⟨_, rfl⟩
end K07
/-! SL: wishes as data; the rows that stand safe. -/
namespace K07
open RI EU LinQ
variable {fu n m t sp : Nat} {S : Store} {os : List (Option (List Rat))} {ws : List Nat}
def unitQ (n i : Nat) : List Rat := (List.range n).map fun j => if j = i then 1 else 0
theorem bd_one : Bd 0 1 1 := ⟨1, by decide, by simp⟩
theorem bd_nil (e c : Nat) : Bd e c 0 := ⟨0, by simp, by simp⟩
theorem unitQ_len (m i : Nat) : (unitQ m i).length = m := by simp [unitQ]
theorem bdu {m i : Nat} : ∀ q ∈ unitQ m i, Bd 1 101 q := by
  intro q hq
  simp only [unitQ, List.mem_map] at hq
  obtain ⟨j, _, rfl⟩ := hq
  split
  · exact bd_one.up (by omega) (by omega)
  · exact bd_nil _ _
theorem rl10 {m : Nat} (h : m ≤ 100) : (-lineR ≤ (m : Int)) ∧ (m : Int) < lineR := by unfold lineR; omega
theorem ln100 {m : Nat} (h : m ≤ 1000) : m ≤ line := Nat.le_trans h (by decide)
theorem unit14 {m a : Nat} (hS : belows S.length S = true) (hm : m ≤ 10) : callF Ir.P fu (n + 1) 10 [.d (.int m), .d (.int a)] S = .ok (.d (rowQ (unitQ m a))) S := by
  refine runD (fd := Ir.f10) rfl rfl rfl hS ?_
  generalize callF Ir.P fu n = cf
  have c0 : Ir.P.consts[0]? = some (ratD 0) := rfl
  have c1 : Ir.P.consts[1]? = some (ratD 1) := rfl
  simp [-List.map_map, Ir.f10, startE, getV, rl10 (m := m) (by omega), wipeE]
  rw [lcMap (fun i : Nat => D.int (i : Nat)) (fun i : Nat => ratD (if i = a then 1 else 0)) (by simp; exact ln100 (by omega)) (by simp) (fun z hz => ?_)]
  · simp [rowQ, unitQ]
  · by_cases h : z = a
    · subst h; simp [getV, c1]
    · have : ¬ (z : Int) = a := by omega
      simp [getV, c0, h, this]
theorem unit44 {m a : Nat} (hS : belows S.length S = true) (hm : m ≤ 10) : callF Ir.P fu (n + 1) 44 [.d (.int m), .d (.int a)] S = .ok (.d (rowQ (unitQ m a))) S := by
  refine runD (fd := Ir.f44) rfl rfl rfl hS ?_
  generalize callF Ir.P fu n = cf
  simp [-List.map_map, Ir.f44, startE, getV, rl10 (m := m) (by omega), wipeE]
  rw [lcMap (fun i : Nat => D.int (i : Nat)) (fun i : Nat => ratD (if i = a then 1 else 0)) (by simp; exact ln100 (by omega)) (by simp) (fun z hz => ?_)]
  · simp [rowQ, unitQ]
  · by_cases h : z = a
    · subst h
      simp [getV]
      rfl
    · have : ¬ (z : Int) = a := by omega
      simp [getV, h, this]
      rfl
def optD : Option (List Rat) → D
  | none => .non
  | some r => rowQ r
def lockD (ls : List Int) : D := .tup (ls.map .int)
def wishQ (os : List (Option (List Rat))) (ls : List Int) (sp : Nat) : D := wish (.tup (os.map optD)) (lockD ls) (.int sp)
def specQ (os : List (Option (List Rat))) (ls : List Int) (sp : Nat) : D := .tup [.tup (os.map optD), lockD ls, .int sp]
/-- rows as drawn -/
structure Wo (os : List (Option (List Rat))) : Prop where
  l1 : 1 ≤ os.length
  l5 : os.length ≤ 5
  r : ∀ r, some r ∈ os → r.length = os.length ∧ ∀ q ∈ r, Bd 1 101 q
theorem Bd.wd {q : Rat} (h : Bd 1 101 q) : q.den ∣ 42 ∧ q.num.natAbs ≤ 4242 := by
  obtain ⟨k, e1, hk⟩ := h
  obtain ⟨c, c0, h1, h2⟩ := Rat.mkRat_num_den (n := k) (pos42 1) (show mkRat k (42 ^ 1) = ⟨q.num, q.den, q.den_nz, q.reduced⟩ from e1.symm)
  refine ⟨⟨c, by rw [← h2]⟩, ?_⟩
  have : q.num.natAbs ≤ k.natAbs := by
    rw [h1, Int.natAbs_mul, Int.natAbs_natCast]
    exact Nat.le_mul_of_pos_right _ (Nat.pos_of_ne_zero c0)
  exact Nat.le_trans this hk
theorem wd_of {r : List Rat} (h : ∀ q ∈ r, Bd 1 101 q) : Wd r := fun q hq => (h q hq).wd
theorem vc_of {r : List Rat} (h : ∀ q ∈ r, Bd 1 101 q) : Vc 0 r := ⟨42, by decide, by decide, fun q hq => by
  obtain ⟨k, e, hk⟩ := h q hq
  refine ⟨k, e, ?_⟩
  have h1 : (101 * 42 ^ 1 : Nat) < 2 ^ (eB 0 - 1) := by decide
  omega⟩
def rowAt (os : List (Option (List Rat))) (c : Nat) : List Rat := (os.getD c none).getD []
def hasAt (os : List (Option (List Rat))) (c : Nat) : Bool := (os.getD c none).isSome
theorem row_at {c : Nat} (h : hasAt os c = true) : some (rowAt os c) ∈ os := by
  unfold hasAt at h
  unfold rowAt
  rw [List.getD_eq_getElem?_getD] at *
  cases hc : os[c]? with
  | none => rw [hc] at h; simp at h
  | some o =>
    rw [hc] at h
    cases o with
    | none => simp at h
    | some r => exact List.mem_of_getElem? hc
theorem row_d {c : Nat} (h : hasAt os c = true) : L2.atI (os.map optD) (c : Int) = some (rowQ (rowAt os c)) := by
  unfold hasAt at h
  unfold rowAt
  rw [List.getD_eq_getElem?_getD] at *
  cases hc : os[c]? with
  | none => rw [hc] at h; simp at h
  | some o =>
    rw [hc] at h
    cases o with
    | none => simp at h
    | some r => exact atJ_map optD hc
theorem opt_d {c : Nat} (h : c < os.length) : L2.atI (os.map optD) (c : Int) = some (optD (os.getD c none)) := by
  refine atJ_map optD ?_
  rw [List.getD_eq_getElem?_getD, List.getElem?_eq_getElem h]
  rfl
theorem has_lt {c : Nat} (h : hasAt os c = true) : c < os.length := by
  unfold hasAt at h
  rw [List.getD_eq_getElem?_getD] at h
  cases hc : os[c]? with
  | none => rw [hc] at h; simp at h
  | some o => exact (List.getElem?_eq_some_iff.mp hc).1
def wordD : Nat → D
  | 0 => .str [110, 111, 116, 32, 98, 101, 103, 117, 110]
  | 1 => .str [100, 111, 110, 101]
  | _ => .str [97, 109, 105, 100]
def wordsD (ws : List Nat) : D := .tup (ws.map wordD)
/-- stages of all cells -/
structure WsOk (os : List (Option (List Rat))) (ws : List Nat) : Prop where
  l : os.length ≤ ws.length
  l9 : ws.length ≤ 10
  w : ∀ w ∈ ws, w ≤ 2
  d : ∀ c, ws.getD c 9 = 1 → c < os.length → hasAt os c = true
theorem word_at {c : Nat} (h : c < ws.length) : L2.atI (ws.map wordD) (c : Int) = some (wordD (ws.getD c 9)) := by
  refine atJ_map wordD ?_
  rw [List.getD_eq_getElem?_getD, List.getElem?_eq_getElem h]
  rfl
def begC (os : List (Option (List Rat))) (ws : List Nat) : List Nat := (List.range os.length).filter fun c => decide (ws.getD c 9 = 0)
def doneC (os : List (Option (List Rat))) (ws : List Nat) : List Nat := (List.range os.length).filter fun c => decide (ws.getD c 9 = 1)
def wishC (os : List (Option (List Rat))) : List Nat := (List.range os.length).filter (hasAt os)
def safeR (os : List (Option (List Rat))) (ws : List Nat) : List (List Rat) := (begC os ws).map (unitQ os.length) ++ (doneC os ws).map (rowAt os)
def wishR (os : List (Option (List Rat))) : List (List Rat) := (wishC os).map (rowAt os)
theorem wish_rs (h : Wo os) : ∀ r ∈ wishR os, (∀ q ∈ r, Bd 1 101 q) ∧ r.length = os.length := by
  intro r hr
  obtain ⟨c, hc, rfl⟩ := List.mem_map.mp hr
  have := h.r _ (row_at (List.mem_filter.mp hc).2)
  exact ⟨this.2, this.1⟩
theorem safe_rs (h : Wo os) (hw : WsOk os ws) : ∀ r ∈ safeR os ws, (∀ q ∈ r, Bd 1 101 q) ∧ r.length = os.length := by
  intro r hr
  rcases List.mem_append.mp hr with hr | hr
  · obtain ⟨c, hc, rfl⟩ := List.mem_map.mp hr
    exact ⟨bdu, unitQ_len _ _⟩
  · obtain ⟨c, hc, rfl⟩ := List.mem_map.mp hr
    obtain ⟨h1, h2⟩ := List.mem_filter.mp hc
    have := h.r _ (row_at (hw.d c (by simpa using h2) (List.mem_range.mp h1)))
    exact ⟨this.2, this.1⟩
theorem few_f (n : Nat) (p : Nat → Bool) : ((List.range n).filter p).length ≤ n := Nat.le_trans (List.length_filter_le _ _) (by simp)
theorem safe_len (h : Wo os) : (safeR os ws).length ≤ 10 := by
  have h1 := few_f os.length fun c => decide (ws.getD c 9 = 0)
  have h2 := few_f os.length fun c => decide (ws.getD c 9 = 1)
  have := h.l5
  unfold safeR begC doneC
  simp only [List.length_append, List.length_map]
  omega
theorem wish_len (h : Wo os) : (wishR os).length ≤ 5 := by
  have h1 := few_f os.length (hasAt os)
  have := h.l5
  unfold wishR wishC
  rw [List.length_map]
  omega
/-! ### the program's -/
variable {ls : List Int}
theorem own22 (hS : belows S.length S = true) : callF Ir.P fu (n + 1) 22 [.d (wishQ os ls sp)] S = .ok (.d (.int (os.length : Nat))) S := by
  refine runD (fd := Ir.f22) rfl rfl rfl hS ?_
  generalize callF Ir.P fu n = cf
  have oc : ordC Ir.P 5 = true := rfl
  simp [Ir.f22, startE, getV, wishQ, wish, fldD, oc, lookN]
theorem all23 (hS : belows S.length S = true) : callF Ir.P fu (n + 1) 23 [.d (wishQ os ls sp)] S = .ok (.d (.int ((os.length + sp : Nat) : Int))) S := by
  refine runD (fd := Ir.f23) rfl rfl rfl hS ?_
  generalize callF Ir.P fu n = cf
  have oc : ordC Ir.P 5 = true := rfl
  simp [Ir.f23, startE, getV, wishQ, wish, fldD, oc, lookN]
theorem zip_has (os : List (Option (List Rat))) : (os.zipIdx.filter fun z => z.1.isSome).map (fun z => D.int (z.2 : Nat)) = (wishC os).map fun c => .int (c : Nat) := by
  have e : os.zipIdx = (List.range os.length).map fun i => (os.getD i none, i) := by
    apply List.ext_getElem
    · simp
    · intro i h1 h2
      have hi : i < os.length := by simpa using h1
      simp [List.getD_eq_getElem?_getD, List.getElem?_eq_getElem hi]
  rw [e, List.filter_map, List.map_map]
  rfl
theorem wished24 (hS : belows S.length S = true) (hl : Wo os) : callF Ir.P fu (n + 1) 24 [.d (wishQ os ls sp)] S = .ok (.d (.lst ((wishC os).map fun c => .int (c : Nat)))) S := by
  refine runD (fd := Ir.f24) rfl rfl rfl hS ?_
  generalize callF Ir.P fu n = cf
  have oc : ordC Ir.P 5 = true := rfl
  have := hl.l5
  rw [← zip_has]
  simp [-List.map_map, Ir.f24, startE, getV, wishQ, wish, fldD, oc, lookN, enum_map, wipeE]
  rw [lcFil2 (fun z : Option (List Rat) × Nat => .int (z.2 : Nat)) (fun z => optD z.1) (fun z => .int (z.2 : Nat)) (fun z => z.1.isSome) (by simp; exact ln100 (by omega)) (by simp) (by simp) (fun z hz => ?_) (fun z hz _ => by simp [getV])]
  · simp
  · rcases z with ⟨o, i⟩
    cases o with
    | none => simp [getV, optD]
    | some r => simp [getV, optD, rowQ]
theorem add_lst {xs ys : List D} (h : xs.length ≤ 100) (h2 : ys.length ≤ 100) : binD .add (.d (.lst xs)) (.d (.lst ys)) S = some (.lst (xs ++ ys)) := by
  simp [binD, addD, lstOf, seqOf]
  unfold line
  omega
theorem word_le {ws : List Nat} (h : WsOk os ws) {c : Nat} (hc : c < ws.length) : ws.getD c 9 ≤ 2 := by
  rw [List.getD_eq_getElem?_getD, List.getElem?_eq_getElem hc]
  exact h.w _ (List.getElem_mem hc)
theorem is_word {C : Ctx} {w : Nat} (h : w ≤ 2) : (cmpW C .eq (.d (wordD w)) (.d (wordD 0)) S = .ok (.d (.bl (decide (w = 0)))) S) ∧ (cmpW C .eq (.d (wordD w)) (.d (wordD 1)) S = .ok (.d (.bl (decide (w = 1)))) S) ∧ (cmpW C .eq (.d (wordD w)) (.d (wordD 2)) S = .ok (.d (.bl (decide (w = 2)))) S) := by
  match w, h with
  | 0, _ => simp [wordD]
  | 1, _ => simp [wordD]
  | 2, _ => simp [wordD]
theorem safe30 (hS : belows S.length S = true) (h : Wo os) (hw : WsOk os ws) : callF Ir.P fu (n + 2) 30 [.d (wishQ os ls sp), .d (wordsD ws)] S = .ok (.d (.lst ((safeR os ws).map rowQ))) S := by
  have e22 := own22 (fu := fu) (n := n) (os := os) (ls := ls) (sp := sp) hS
  have hl5 := h.l5
  have e10 : ∀ c : Nat, callF Ir.P fu (n + 1) 10 [.d (.int (os.length : Nat)), .d (.int (c : Nat))] S = .ok (.d (rowQ (unitQ os.length c))) S := fun c => unit14 hS (by omega)
  refine runD (fd := Ir.f30) rfl rfl rfl hS ?_
  generalize callF Ir.P fu (n + 1) = cf at *
  have oc : ordC Ir.P 5 = true := rfl
  have c5 : Ir.P.consts[5]? = some (wordD 0) := rfl
  have c6 : Ir.P.consts[6]? = some (wordD 1) := rfl
  have hwl := hw.l
  have k0 := lcFil (C := ⟨cf, Ir.P, fu⟩) (i := 4) (e := .call 10 (.cons (.var 2) (.cons (.var 4) .nil))) (c := .cmp .eq (.ix (.var 1) (.var 4)) (.glob 5)) (η := [some (.d (wishQ os ls sp)), some (.d (wordsD ws)), some (.d (.int (os.length : Nat))), none, none]) (S := S) (fun c : Nat => .int c) (fun c => rowQ (unitQ os.length c)) (fun c => decide (ws.getD c 9 = 0)) (zs := List.range os.length) (by simp; exact ln100 (by omega)) (by simp)
    (fun c hc => by
      have hc := List.mem_range.mp hc
      have hwa := word_at (ws := ws) (c := c) (by omega)
      have hiw := (is_word (C := ⟨cf, Ir.P, fu⟩) (S := S) (word_le hw (c := c) (by omega))).1
      simp [-List.getD_eq_getElem?_getD, getV, wordsD, hwa, c5, hiw])
    (fun c hc _ => by simp [getV, e10])
  have k1 : ∀ w3, lcSrc (setT ⟨cf, Ir.P, fu⟩ (.nm 4)) (evalC ⟨cf, Ir.P, fu⟩ (.yes (.cmp .eq (.ix (.var 1) (.var 4)) (.glob 6)))) (evalP ⟨cf, Ir.P, fu⟩ (.ix (.fld (.var 0) 5) (.var 4))).1 [some (.d (wishQ os ls sp)), some (.d (wordsD ws)), some (.d (.int (os.length : Nat))), w3, none] (.fix ((List.range os.length).map fun c : Nat => .int c)) S = .ok ((doneC os ws).map fun c => rowQ (rowAt os c)) S := fun w3 => lcFil (C := ⟨cf, Ir.P, fu⟩) (i := 4) (e := .ix (.fld (.var 0) 5) (.var 4)) (c := .cmp .eq (.ix (.var 1) (.var 4)) (.glob 6)) (fun c : Nat => .int c) (fun c => rowQ (rowAt os c)) (fun c => decide (ws.getD c 9 = 1)) (zs := List.range os.length) (by simp; exact ln100 (by omega)) (by simp)
    (fun c hc => by
      have hc := List.mem_range.mp hc
      have hwa := word_at (ws := ws) (c := c) (by omega)
      have hiw := (is_word (C := ⟨cf, Ir.P, fu⟩) (S := S) (word_le hw (c := c) (by omega))).2.1
      simp [-List.getD_eq_getElem?_getD, getV, wordsD, hwa, c6, hiw])
    (fun c hc hd => by
      have hc := List.mem_range.mp hc
      have hr := row_d (hw.d c (by simpa using hd) hc)
      simp [getV, wishQ, wish, fldD, oc, lookN, hr])
  have rl := rl10 (m := os.length) (by omega)
  have h1 := few_f os.length fun c => decide (ws.getD c 9 = 0)
  have h2 := few_f os.length fun c => decide (ws.getD c 9 = 1)
  have hadd : ∀ S : Store, binD .add (.d (.lst ((begC os ws).map fun c => rowQ (unitQ os.length c)))) (.d (.lst ((doneC os ws).map fun c => rowQ (rowAt os c)))) S = some (.lst ((safeR os ws).map rowQ)) := fun S => by
    rw [add_lst (by unfold begC; rw [List.length_map]; omega) (by unfold doneC; rw [List.length_map]; omega)]
    simp [safeR, Function.comp_def]
  rw [show (List.filter (fun c => decide (ws.getD c 9 = 0)) (List.range os.length)) = begC os ws from rfl] at k0
  simp [-List.map_map, -List.getD_eq_getElem?_getD, Ir.f30, startE, getV, e22, rl, wipeE, lcSrc] at k0 k1 ⊢
  rw [k0]
  simp only [bnd_ok, noExc_ok, Res.bind_ok]
  simp [-List.map_map, getV, rl, wipeE, lcSrc, k1, hadd]
end K07
/-! SM: the lack by both. -/
namespace K07
open RI EU LinQ
variable {fu n m t sp : Nat} {S : Store} {os : List (Option (List Rat))} {ws : List Nat} {ls : List Int}
def amidN (ws : List Nat) : Nat := (ws.filter fun w => decide (w = 2)).length
noncomputable def lackN (os : List (Option (List Rat))) (ws : List Nat) : Nat := rk ((safeR os ws).map vec) ((wishR os).map vec)
noncomputable def lackD (os : List (Option (List Rat))) (ws : List Nat) : D := .tup [.int (lackN os ws : Nat), .int (amidN ws : Nat)]
theorem rs_ok {rs : List (List Rat)} (h : ∀ r ∈ rs, (∀ q ∈ r, Bd 1 101 q) ∧ r.length = m) : RsOk m rs := fun r hr => ⟨wd_of (h r hr).1, (h r hr).2⟩
theorem free31 (hS : belows S.length S = true) (hfu : 1000000 < fu) (h : Wo os) (hw : WsOk os ws) : ∃ ds : List D, ds.length = lackN os ws ∧ callF Ir.P fu (n + 8) 31 [.d (wishQ os ls sp), .d (wordsD ws)] S = .ok (.d (.lst ds)) S := by
  have e24 := wished24 (fu := fu) (n := n + 6) (os := os) (ls := ls) (sp := sp) hS h
  have e30 := safe30 (fu := fu) (n := n + 5) (os := os) (ls := ls) (sp := sp) hS h hw
  have hl5 := h.l5
  have hwl := wish_len h
  have hR := rs_ok (wish_rs h)
  have hF := rs_ok (safe_rs h hw)
  have e19 := free19 (fu := fu) (n := n) hS hfu hl5 hR (by omega) hF
  have hk := freeL_rk hl5 (wishR os) (foldK (safeR os ws)) _ 0 (foldK_ok hl5 hF) hR
  have hlt := freeL_lt (wishR os) (foldK (safeR os ws)) 0
  refine ⟨(freeL (foldK (safeR os ws)) 0 (wishR os)).map fun i => .int ((wishC os).getD i 0 : Nat), by rw [List.length_map]; exact hk, ?_⟩
  refine runD (fd := Ir.f31) rfl rfl rfl hS ?_
  generalize callF Ir.P fu (n + 7) = cf at *
  have oc : ordC Ir.P 5 = true := rfl
  have hcl : (wishC os).length = (wishR os).length := by simp [wishR]
  have k0 := lcMap (C := ⟨cf, Ir.P, fu⟩) (i := 5) (e := .ix (.fld (.var 0) 5) (.var 5)) (η := [some (.d (wishQ os ls sp)), some (.d (wordsD ws)), some (.d (.lst ((wishC os).map fun c => .int (c : Nat)))), none, none, none]) (S := S) (fun c : Nat => .int c) (fun c => rowQ (rowAt os c)) (zs := wishC os) (by rw [hcl]; exact ln100 (by omega)) (by simp)
    (fun c hc => by
      have hr := row_d (List.mem_filter.mp hc).2
      simp [getV, wishQ, wish, fldD, oc, lookN, hr])
  have hm : (wishC os).map (fun c => rowQ (rowAt os c)) = (wishR os).map rowQ := by simp [wishR, Function.comp_def]
  rw [hm] at k0
  generalize freeL (foldK (safeR os ws)) 0 (wishR os) = fl at *
  have hfl : fl.length ≤ 1000 := by
    rw [hk]
    have : ∀ (vs seen : List V), rk seen vs ≤ vs.length := by
      intro vs
      induction vs with
      | nil => intro seen; simp [rk]
      | cons v vs ih =>
        intro seen
        have := ih (seen ++ [v])
        rw [rk, List.length_cons]
        split <;> omega
    have := this ((wishR os).map vec) ((safeR os ws).map vec)
    rw [List.length_map] at this
    omega
  have k1 := lcMap (C := ⟨cf, Ir.P, fu⟩) (i := 4) (e := .ix (.var 2) (.var 4)) (η := [some (.d (wishQ os ls sp)), some (.d (wordsD ws)), some (.d (.lst ((wishC os).map fun c => .int (c : Nat)))), some (.d (.lst (fl.map fun i => .int (i : Nat)))), none, none]) (S := S) (fun i : Nat => .int i) (fun i => .int ((wishC os).getD i 0 : Nat)) (zs := fl) (ln100 hfl) (by simp)
    (fun i hi => by
      have hi := (hlt i hi).2
      have hat : L2.atI ((wishC os).map fun c => D.int (c : Nat)) (i : Int) = some (.int ((wishC os).getD i 0 : Nat)) := by
        refine atJ_map (fun c : Nat => D.int c) ?_
        rw [List.getD_eq_getElem?_getD, List.getElem?_eq_getElem (by omega)]
        rfl
      simp [-List.getD_eq_getElem?_getD, getV, hat])
  simp [-List.map_map, -List.getD_eq_getElem?_getD, Ir.f31, startE, getV, e24, wipeE, lcSrc] at k0 k1 ⊢
  rw [k0]
  simp only [bnd_ok, noExc_ok, Res.bind_ok]
  simp [-List.map_map, -List.getD_eq_getElem?_getD, getV, e30, e19, wipeE, lcSrc]
  rw [k1]
  simp
theorem amid32 (hS : belows S.length S = true) (h9 : ws.length ≤ 100) (hw : ∀ w ∈ ws, w ≤ 2) : ∃ ds : List D, ds.length = amidN ws ∧ callF Ir.P fu (n + 1) 32 [.d (wordsD ws)] S = .ok (.d (.lst ds)) S := by
  refine ⟨(ws.zipIdx.filter fun z => decide (z.1 = 2)).map fun z => .int (z.2 : Nat), ?_, ?_⟩
  · have : ∀ (ws : List Nat) (i : Nat), ((ws.zipIdx i).filter fun z => decide (z.1 = 2)).length = (ws.filter fun w => decide (w = 2)).length := by
      intro ws
      induction ws with
      | nil => intros; rfl
      | cons w ws ih =>
        intro i
        rw [List.zipIdx_cons, List.filter_cons, List.filter_cons]
        split <;> simp_all
    rw [List.length_map, this]
    rfl
  · refine runD (fd := Ir.f32) rfl rfl rfl hS ?_
    generalize callF Ir.P fu n = cf
    have c7 : Ir.P.consts[7]? = some (wordD 2) := rfl
    simp [-List.map_map, Ir.f32, startE, getV, wordsD, enum_map, wipeE]
    rw [lcFil2 (fun z : Nat × Nat => .int (z.2 : Nat)) (fun z => wordD z.1) (fun z => .int (z.2 : Nat)) (fun z => decide (z.1 = 2)) (by simp; exact ln100 (by omega)) (by simp) (by simp) (fun z hz => ?_) (fun z hz _ => by simp [getV])]
    · simp
    · have hm : z.1 ∈ ws := by
        have := List.mem_zipIdx hz
        simp at this
        obtain ⟨h1, h2⟩ := this
        rw [h2]
        exact List.getElem_mem _
      have hiw := (is_word (C := ⟨cf, Ir.P, fu⟩) (S := S) (hw _ hm)).2.2
      simp [getV, c7, hiw]
theorem lack33 (hS : belows S.length S = true) (hfu : 1000000 < fu) (h : Wo os) (hw : WsOk os ws) : callF Ir.P fu (n + 9) 33 [.d (wishQ os ls sp), .d (wordsD ws)] S = .ok (.d (lackD os ws)) S := by
  obtain ⟨d1, h1, e31⟩ := free31 (fu := fu) (n := n) (ls := ls) (sp := sp) hS hfu h hw
  obtain ⟨d2, h2, e32⟩ := amid32 (fu := fu) (n := n + 7) hS (by have := hw.l9; omega) hw.w
  refine runD (fd := Ir.f33) rfl rfl rfl hS ?_
  generalize callF Ir.P fu (n + 8) = cf at *
  simp [Ir.f33, startE, getV, e31, e32, h1, h2, lackD]
/-! ### the law's -/
theorem all52 (hS : belows S.length S = true) : callF Ir.P fu (n + 1) 52 [.d (specQ os ls sp)] S = .ok (.d (.int ((os.length + sp : Nat) : Int))) S := by
  refine runD (fd := Ir.f52) rfl rfl rfl hS ?_
  generalize callF Ir.P fu n = cf
  simp [Ir.f52, startE, getV, specQ]
theorem safe54 (hS : belows S.length S = true) (h : Wo os) (hw : WsOk os ws) : callF Ir.P fu (n + 2) 54 [.d (specQ os ls sp), .d (wordsD ws)] S = .ok (.d (.lst ((safeR os ws).map rowQ))) S := by
  have hl5 := h.l5
  have e44 : ∀ c : Nat, callF Ir.P fu (n + 1) 44 [.d (.int (os.length : Nat)), .d (.int (c : Nat))] S = .ok (.d (rowQ (unitQ os.length c))) S := fun c => unit44 hS (by omega)
  refine runD (fd := Ir.f54) rfl rfl rfl hS ?_
  generalize callF Ir.P fu (n + 1) = cf at *
  have w0 : wordD 0 = .str [110, 111, 116, 32, 98, 101, 103, 117, 110] := rfl
  have w1 : wordD 1 = .str [100, 111, 110, 101] := rfl
  have hwl := hw.l
  have a0 : ∀ a b c : D, L2.atI [a, b, c] 0 = some a := fun _ _ _ => rfl
  have k0 := lcFil (C := ⟨cf, Ir.P, fu⟩) (i := 4) (e := .call 44 (.cons (.var 2) (.cons (.var 4) .nil))) (c := .cmp .eq (.ix (.var 1) (.var 4)) (.str [110, 111, 116, 32, 98, 101, 103, 117, 110])) (η := [some (.d (specQ os ls sp)), some (.d (wordsD ws)), some (.d (.int (os.length : Nat))), none, none]) (S := S) (fun c : Nat => .int c) (fun c => rowQ (unitQ os.length c)) (fun c => decide (ws.getD c 9 = 0)) (zs := List.range os.length) (by simp; exact ln100 (by omega)) (by simp)
    (fun c hc => by
      have hc := List.mem_range.mp hc
      have hwa := word_at (ws := ws) (c := c) (by omega)
      have hiw := (is_word (C := ⟨cf, Ir.P, fu⟩) (S := S) (word_le hw (c := c) (by omega))).1
      rw [w0] at hiw
      simp [-List.getD_eq_getElem?_getD, getV, wordsD, hwa, hiw])
    (fun c hc _ => by simp [getV, e44])
  have k1 : ∀ w3, lcSrc (setT ⟨cf, Ir.P, fu⟩ (.nm 4)) (evalC ⟨cf, Ir.P, fu⟩ (.yes (.cmp .eq (.ix (.var 1) (.var 4)) (.str [100, 111, 110, 101])))) (evalP ⟨cf, Ir.P, fu⟩ (.ix (.ix (.var 0) (.int 0)) (.var 4))).1 [some (.d (specQ os ls sp)), some (.d (wordsD ws)), some (.d (.int (os.length : Nat))), w3, none] (.fix ((List.range os.length).map fun c : Nat => .int c)) S = .ok ((doneC os ws).map fun c => rowQ (rowAt os c)) S := fun w3 => lcFil (C := ⟨cf, Ir.P, fu⟩) (i := 4) (e := .ix (.ix (.var 0) (.int 0)) (.var 4)) (c := .cmp .eq (.ix (.var 1) (.var 4)) (.str [100, 111, 110, 101])) (fun c : Nat => .int c) (fun c => rowQ (rowAt os c)) (fun c => decide (ws.getD c 9 = 1)) (zs := List.range os.length) (by simp; exact ln100 (by omega)) (by simp)
    (fun c hc => by
      have hc := List.mem_range.mp hc
      have hwa := word_at (ws := ws) (c := c) (by omega)
      have hiw := (is_word (C := ⟨cf, Ir.P, fu⟩) (S := S) (word_le hw (c := c) (by omega))).2.1
      rw [w1] at hiw
      simp [-List.getD_eq_getElem?_getD, getV, wordsD, hwa, hiw])
    (fun c hc hd => by
      have hc := List.mem_range.mp hc
      have hr := row_d (hw.d c (by simpa using hd) hc)
      simp [getV, specQ, a0, hr])
  have rl := rl10 (m := os.length) (by omega)
  have h1 := few_f os.length fun c => decide (ws.getD c 9 = 0)
  have h2 := few_f os.length fun c => decide (ws.getD c 9 = 1)
  have hadd : ∀ S : Store, binD .add (.d (.lst ((begC os ws).map fun c => rowQ (unitQ os.length c)))) (.d (.lst ((doneC os ws).map fun c => rowQ (rowAt os c)))) S = some (.lst ((safeR os ws).map rowQ)) := fun S => by
    rw [add_lst (by unfold begC; rw [List.length_map]; omega) (by unfold doneC; rw [List.length_map]; omega)]
    simp [safeR, Function.comp_def]
  rw [show (List.filter (fun c => decide (ws.getD c 9 = 0)) (List.range os.length)) = begC os ws from rfl] at k0
  simp [-List.map_map, -List.getD_eq_getElem?_getD, Ir.f54, startE, getV, specQ, a0, rl, wipeE, lcSrc] at k0 k1 ⊢
  rw [k0]
  simp only [bnd_ok, noExc_ok, Res.bind_ok]
  simp [-List.map_map, getV, rl, wipeE, lcSrc, k1, hadd]
theorem wished55 (hS : belows S.length S = true) (h : Wo os) : callF Ir.P fu (n + 1) 55 [.d (specQ os ls sp)] S = .ok (.d (.lst ((wishC os).map fun c => .int (c : Nat)))) S := by
  have hl5 := h.l5
  refine runD (fd := Ir.f55) rfl rfl rfl hS ?_
  generalize callF Ir.P fu n = cf
  have a0 : ∀ a b c : D, L2.atI [a, b, c] 0 = some a := fun _ _ _ => rfl
  have k0 := lcFil (C := ⟨cf, Ir.P, fu⟩) (i := 1) (e := .var 1) (c := .isi (.ix (.ix (.var 0) (.int 0)) (.var 1)) [.tuple]) (η := [some (.d (specQ os ls sp)), none]) (S := S) (fun c : Nat => .int c) (fun c => .int c) (hasAt os) (zs := List.range os.length) (by simp; exact ln100 (by omega)) (by simp)
    (fun c hc => by
      have hc := List.mem_range.mp hc
      have ho := opt_d (os := os) hc
      unfold hasAt
      generalize os.getD c none = o at *
      cases o <;> simp [getV, specQ, a0, ho, optD, rowQ, tyOk0, tyIs])
    (fun c hc _ => by simp [getV])
  have rl := rl10 (m := os.length) (by omega)
  simp [-List.map_map, Ir.f55, startE, getV, specQ, a0, rl, wipeE, lcSrc] at k0 ⊢
  rw [k0]
  simp [wishC]
theorem lack56 (hS : belows S.length S = true) (hfu : 1000000 < fu) (h : Wo os) (hw : WsOk os ws) : callF Ir.P fu (n + 6) 56 [.d (specQ os ls sp), .d (wordsD ws)] S = .ok (.d (lackD os ws)) S := by
  have e54 := safe54 (fu := fu) (n := n + 3) (ls := ls) (sp := sp) hS h hw
  have e55 := wished55 (fu := fu) (n := n + 4) (ls := ls) (sp := sp) (os := os) hS h
  have hl5 := h.l5
  have hwl := wish_len h
  have hsl := safe_len (ws := ws) h
  have r1 := rank47 (fu := fu) (n := n) (m := os.length) (rows := safeR os ws) hS hfu hl5 (by omega) fun r hr => ⟨(safe_rs h hw r hr).2, vc_of (safe_rs h hw r hr).1⟩
  have r2 := rank47 (fu := fu) (n := n) (m := os.length) (rows := safeR os ws ++ wishR os) hS hfu hl5 (by simp; omega) fun r hr => by
    rcases List.mem_append.mp hr with hr | hr
    · exact ⟨(safe_rs h hw r hr).2, vc_of (safe_rs h hw r hr).1⟩
    · exact ⟨(wish_rs h r hr).2, vc_of (wish_rs h r hr).1⟩
  have hrk : (rk [] ((safeR os ws ++ wishR os).map vec) : Int) - (rk [] ((safeR os ws).map vec) : Nat) = (lackN os ws : Nat) := by
    rw [List.map_append, rk_app]
    unfold lackN
    simp
    omega
  refine runD (fd := Ir.f56) rfl rfl rfl hS ?_
  generalize callF Ir.P fu (n + 5) = cf at *
  have a0 : ∀ a b c : D, L2.atI [a, b, c] 0 = some a := fun _ _ _ => rfl
  have hcl : (wishC os).length = (wishR os).length := by simp [wishR]
  have k0 := lcMap (C := ⟨cf, Ir.P, fu⟩) (i := 4) (e := .ix (.ix (.var 0) (.int 0)) (.var 4)) (η := [some (.d (specQ os ls sp)), some (.d (wordsD ws)), some (.d (.lst ((safeR os ws).map rowQ))), none, none, none]) (S := S) (fun c : Nat => .int c) (fun c => rowQ (rowAt os c)) (zs := wishC os) (by rw [hcl]; exact ln100 (by omega)) (by simp)
    (fun c hc => by
      have hr := row_d (List.mem_filter.mp hc).2
      simp [getV, specQ, a0, hr])
  have hm : (wishC os).map (fun c => rowQ (rowAt os c)) = (wishR os).map rowQ := by simp [wishR, Function.comp_def]
  rw [hm] at k0
  have hadd : ∀ S : Store, binD .add (.d (.lst ((safeR os ws).map rowQ))) (.d (.lst ((wishR os).map rowQ))) S = some (.lst ((safeR os ws ++ wishR os).map rowQ)) := fun S => by
    rw [add_lst (by rw [List.length_map]; omega) (by rw [List.length_map]; omega)]
    simp
  have k1 := lcFil (C := ⟨cf, Ir.P, fu⟩) (i := 5) (e := .var 5) (c := .cmp .eq (.var 5) (.str [97, 109, 105, 100])) (η := [some (.d (specQ os ls sp)), some (.d (wordsD ws)), some (.d (.lst ((safeR os ws).map rowQ))), some (.d (.lst ((wishR os).map rowQ))), none, none]) (S := S) wordD wordD (fun w => decide (w = 2)) (zs := ws) (ln100 (by have := hw.l9; omega)) (by simp)
    (fun w hwm => by
      have hiw := (is_word (C := ⟨cf, Ir.P, fu⟩) (S := S) (hw.w w hwm)).2.2
      rw [show wordD 2 = .str [97, 109, 105, 100] from rfl] at hiw
      simp [getV, hiw])
    (fun w hwm _ => by simp [getV])
  simp only [wordsD] at *
  simp [-List.map_map, Ir.f56, startE, getV, e54, e55, wipeE, lcSrc] at k0 k1 ⊢
  rw [k0]
  simp only [bnd_ok, noExc_ok, Res.bind_ok]
  simp [-List.map_map, -List.map_append, getV, hadd, r1, r2, wipeE, lcSrc]
  rw [k1]
  rw [List.map_append] at hrk
  simp [lackD, amidN, hrk]
end K07
/-! SN: the stages by both. -/
namespace K07
open RI EU LinQ
variable {fu n m t sp : Nat} {S : Store} {os : List (Option (List Rat))} {ls : List Int}
def natL (l : List Nat) : List D := l.map fun c => .int (c : Nat)
def natsD (l : List Nat) : D := .tup (natL l)
/-- the stage of a cell -/
def word (os : List (Option (List Rat))) (o : List Nat) (t c : Nat) : Nat := if c ∉ o.take t then 0 else if hasAt os c = true ∧ c ∉ o.drop t then 1 else 2
def words (os : List (Option (List Rat))) (sp : Nat) (o : List Nat) (t : Nat) : List Nat := (List.range (os.length + sp)).map (word os o t)
theorem words_ok {o : List Nat} (h : Wo os) (hsp : sp ≤ 2) : WsOk os (words os sp o t) := by
  have := h.l5
  refine ⟨by simp [words], by simp [words]; omega, fun w hw => ?_, fun c hc hl => ?_⟩
  · obtain ⟨c, _, rfl⟩ := List.mem_map.mp hw
    unfold word
    split
    · omega
    · split <;> omega
  · have e : (words os sp o t).getD c 9 = word os o t c := by
      unfold words
      rw [List.getD_eq_getElem?_getD, List.getElem?_map, List.getElem?_range (by omega)]
      rfl
    rw [e] at hc
    unfold word at hc
    split at hc
    · omega
    · split at hc
      · next h => exact h.1
      · omega
theorem inD_seq {c : Nat} {ls : List Nat} {y : W} {kd : SK} (h : seqOf y S = some (kd, natL ls)) : inD (.d (.int (c : Nat))) y S = some (decide (c ∈ ls)) := by
  have e : inD (.d (.int (c : Nat))) y S = match seqOf y S with
    | some (k, ys) => pyIn k (.int (c : Nat)) ys
    | none => none := by cases y <;> rfl
  rw [e, h]
  simp only
  unfold pyIn
  have h2 : (natL ls).all flatD = true := by simp [natL, flatD]
  rw [h2, show flatD (D.int (c : Nat)) = true from rfl]
  simp only [Bool.and_self, if_true]
  congr 1
  rw [Bool.eq_iff_iff]
  simp [natL, eqF]
  constructor
  · rintro ⟨a, ha, e⟩
    have : a = c := by omega
    exact this ▸ ha
  · exact fun h => ⟨c, h, rfl⟩
theorem nin_nat {C : Ctx} {c : Nat} {ls : List Nat} {y : W} {kd : SK} (h : seqOf y S = some (kd, natL ls)) : cmpW C .nin (.d (.int (c : Nat))) y S = .ok (.d (.bl (!decide (c ∈ ls)))) S := by
  unfold cmpW
  simp only [cmpD, inD_seq h, Option.map_some, ofO_some, Res.bind_ok, bnd_ok]
theorem seq_tup {ls : List Nat} : seqOf (.d (natsD ls)) S = some (.tup, natL ls) := rfl
theorem seq_lst {ls : List Nat} : seqOf (.d (.lst (natL ls))) S = some (.lst, natL ls) := rfl
def tickD (c : Nat) : D := .tup [.int (c : Nat)]
def ticksD (o : List Nat) : D := .tup (o.map tickD)
theorem ticks27 {o : List Nat} (hS : belows S.length S = true) (ho : o.length ≤ 100) : callF Ir.P fu (n + 1) 27 [.d (natsD o)] S = .ok (.d (ticksD o)) S := by
  refine runD (fd := Ir.f27) rfl rfl rfl hS ?_
  generalize callF Ir.P fu n = cf
  have key := lcMap (C := ⟨cf, Ir.P, fu⟩) (i := 1) (e := .tup (.cons (.var 1) .nil)) (η := [some (.d (natsD o)), none]) (S := S) (fun c : Nat => .int c) tickD (zs := o) (ln100 (by omega)) (by simp) (fun c hc => by simp [getV, tickD])
  simp only [natsD, natL] at key ⊢
  simp [-List.map_map, Ir.f27, startE, getV, wipeE, lcSrc] at key ⊢
  rw [key]
  simp [ticksD]
theorem fld_rows : fldD Ir.P (.d (wishQ os ls sp)) 5 S = some (.d (.tup (os.map optD))) := by
  have oc : ordC Ir.P 5 = true := rfl
  simp [wishQ, wish, fldD, oc, lookN]
theorem stage28 {o : List Nat} {c : Nat} (hS : belows S.length S = true) (hc : c < os.length + sp) : callF Ir.P fu (n + 2) 28 [.d (wishQ os ls sp), .d (.int (c : Nat)), .d (.lst (natL (o.take t))), .d (.lst (natL (o.drop t)))] S = .ok (.d (wordD (word os o t c))) S := by
  have e22 := own22 (fu := fu) (n := n) (os := os) (ls := ls) (sp := sp) hS
  refine runD (fd := Ir.f28) rfl rfl rfl hS ?_
  generalize callF Ir.P fu (n + 1) = cf at *
  have fr := fld_rows (S := S) (os := os) (ls := ls) (sp := sp)
  have c5 : Ir.P.consts[5]? = some (wordD 0) := rfl
  have c6 : Ir.P.consts[6]? = some (wordD 1) := rfl
  have c7 : Ir.P.consts[7]? = some (wordD 2) := rfl
  have n1 := nin_nat (C := ⟨cf, Ir.P, fu⟩) (S := S) (c := c) (seq_lst (S := S) (ls := o.take t))
  have n2 := nin_nat (C := ⟨cf, Ir.P, fu⟩) (S := S) (c := c) (seq_lst (S := S) (ls := o.drop t))
  unfold word
  by_cases h1 : c ∈ o.take t
  · by_cases h2 : c < os.length
    · have h2' : (c : Int) < (os.length : Nat) := by omega
      have hat := opt_d (os := os) h2
      unfold hasAt
      generalize os.getD c none = x at *
      cases x with
      | none => simp [Ir.f28, startE, getV, n1, h1, e22, h2', h2, fr, hat, optD, c7]
      | some r =>
        by_cases h3 : c ∈ o.drop t
        · simp [Ir.f28, startE, getV, n1, n2, h1, e22, h2', h2, fr, hat, optD, rowQ, h3, c7]
        · simp [Ir.f28, startE, getV, n1, n2, h1, e22, h2', h2, fr, hat, optD, rowQ, h3, c6]
    · have h2' : ¬ (c : Int) < (os.length : Nat) := by omega
      have hf : hasAt os c = false := by
        unfold hasAt
        rw [List.getD_eq_getElem?_getD, List.getElem?_eq_none (by omega)]
        rfl
      simp [Ir.f28, startE, getV, n1, h1, e22, h2', h2, hf, c7]
  · simp [Ir.f28, startE, getV, n1, h1, c5]
theorem lsts_ticks (o : List Nat) : lstsOf (o.map fun c => D.lst [.int (c : Nat)]) = some (natL o) := by
  induction o with
  | nil => rfl
  | cons c o ih => simp [lstsOf, ih, natL]
theorem sum_ticks {S : Store} {o : List Nat} (ho : o.length ≤ 1000) : biD .sum [.d (.lst (o.map fun c => D.lst [.int (c : Nat)])), .d (.lst [])] S = some (.lst (natL o)) := by
  have h1 : (natL o).length ≤ line := by simp [natL]; exact ln100 ho
  simp [biD, seqOf, lsts_ticks, h1]
theorem stages29 {o : List Nat} (hS : belows S.length S = true) (ho : o.length ≤ 100) (hm : os.length + sp ≤ 10) : callF Ir.P fu (n + 3) 29 [.d (wishQ os ls sp), .d (ticksD o), .d (.int (t : Nat))] S = .ok (.d (wordsD (words os sp o t))) S := by
  have e23 := all23 (fu := fu) (n := n + 1) (os := os) (ls := ls) (sp := sp) hS
  have e28 : ∀ c, c < os.length + sp → callF Ir.P fu (n + 2) 28 [.d (wishQ os ls sp), .d (.int (c : Nat)), .d (.lst (natL (o.take t))), .d (.lst (natL (o.drop t)))] S = .ok (.d (wordD (word os o t c))) S := fun c hc => stage28 hS hc
  refine runD (fd := Ir.f29) rfl rfl rfl hS ?_
  generalize callF Ir.P fu (n + 2) = cf at *
  have key : ∀ (q : List Nat) (w3 w4 : Option W), q.length ≤ 100 → lcSrc (setT ⟨cf, Ir.P, fu⟩ (.nm 5)) (evalC ⟨cf, Ir.P, fu⟩ .no) (evalP ⟨cf, Ir.P, fu⟩ (.bi .list (.cons (.var 5) .nil))).1 [some (.d (wishQ os ls sp)), some (.d (ticksD o)), some (.d (.int (t : Nat))), w3, w4, none, none] (.fix (q.map tickD)) S = .ok (q.map fun c => .lst [.int (c : Nat)]) S := fun q w3 w4 hq =>
    lcMap (C := ⟨cf, Ir.P, fu⟩) tickD (fun c => .lst [.int (c : Nat)]) (zs := q) (ln100 (by omega)) (by simp) (fun c hc => by simp [getV, tickD])
  have k0 := key (o.take t) none none (by simp; omega)
  have k1 := key (o.drop t) (some (.d (.lst (natL (o.take t))))) none (by simp; omega)
  have s0 := sum_ticks (S := S) (o := o.take t) (by simp; omega)
  have s1 := sum_ticks (S := S) (o := o.drop t) (by simp; omega)
  have c0 : cut (o.map tickD) none (some (t : Int)) = (o.take t).map tickD := by rw [cut_map, cut_to]
  have c1 : cut (o.map tickD) (some (t : Int)) none = (o.drop t).map tickD := by rw [cut_map, cut_from]
  have k2 := lcMap (C := ⟨cf, Ir.P, fu⟩) (i := 6) (e := .call 28 (.cons (.var 0) (.cons (.var 6) (.cons (.var 3) (.cons (.var 4) .nil))))) (η := [some (.d (wishQ os ls sp)), some (.d (ticksD o)), some (.d (.int (t : Nat))), some (.d (.lst (natL (o.take t)))), some (.d (.lst (natL (o.drop t)))), none, none]) (S := S) (fun c : Nat => .int c) (fun c => wordD (word os o t c)) (zs := List.range (os.length + sp)) (by simp; exact ln100 (by omega)) (by simp)
    (fun c hc => by simp [getV, e28 c (List.mem_range.mp hc)])
  have rl := rl10 (m := os.length + sp) (by omega)
  have hw : D.tup ((List.range (os.length + sp)).map fun c => wordD (word os o t c)) = wordsD (words os sp o t) := by simp [wordsD, words]
  generalize o.take t = A at *
  generalize o.drop t = B at *
  simp only [ticksD] at *
  simp [-List.map_map, -List.map_take, -List.map_drop, Ir.f29, startE, getV, slD, seqOf, c0, c1, wipeE, lcSrc] at k0 k1 k2 ⊢
  rw [k0]
  simp only [bnd_ok, noExc_ok, Res.bind_ok]
  simp [-List.map_map, -List.map_take, -List.map_drop, getV, s0, slD, seqOf, c0, c1, wipeE, lcSrc]
  rw [k1]
  simp only [bnd_ok, noExc_ok, Res.bind_ok]
  simp only [Int.natCast_add] at e23 rl k2
  have hr : (((os.length : Int) + (sp : Int)).toNat) = os.length + sp := by omega
  simp [-List.map_map, getV, s1, e23, rl, hr, wipeE, lcSrc, k2, hw]
/-! ### orders and moments -/
/-- what can be asked whether it is an order -/
structure Og (x : D) : Prop where
  p : pl x = true
  t : ∀ xs, x = .tup xs → xs.length ≤ 1000 ∧ ∀ y ∈ xs, pl y = true
def ordB (m : Nat) (x : D) : Bool := match x with
  | .tup xs => decide (xs.length ≤ 60) && xs.all fun y => inR y 0 ((m : Int) - 1)
  | _ => false
theorem ordB_ok {m : Nat} {x : D} (h : ordB m x = true) : ∃ o : List Nat, x = natsD o ∧ o.length ≤ 60 ∧ ∀ c ∈ o, c < m := by
  cases x <;> (first | (simp [ordB] at h; done) | skip)
  rename_i xs
  simp only [ordB, Bool.and_eq_true, decide_eq_true_eq, List.all_eq_true] at h
  have : ∀ xs : List D, (∀ y ∈ xs, inR y 0 ((m : Int) - 1) = true) → ∃ o : List Nat, xs = natL o ∧ ∀ c ∈ o, c < m := by
    intro xs
    induction xs with
    | nil => intro _; exact ⟨[], rfl, by simp⟩
    | cons y xs ih =>
      intro h
      obtain ⟨o, rfl, ho⟩ := ih fun z hz => h z (by simp [hz])
      have hy := h y (by simp)
      cases y <;> (first | (simp [inR] at hy; done) | skip)
      rename_i i
      simp [inR] at hy
      obtain ⟨k, rfl⟩ : ∃ k : Nat, i = k := ⟨i.toNat, by omega⟩
      refine ⟨k :: o, rfl, fun c hc => ?_⟩
      rcases List.mem_cons.mp hc with rfl | hc
      · omega
      · exact ho c hc
  obtain ⟨o, rfl, ho⟩ := this xs h.2
  exact ⟨o, rfl, by simpa [natL] using h.1, ho⟩
theorem ordB_nats {m : Nat} {o : List Nat} (hl : o.length ≤ 60) (h : ∀ c ∈ o, c < m) : ordB m (natsD o) = true := by
  simp only [natsD, ordB, natL, List.length_map, Bool.and_eq_true, decide_eq_true_eq, List.all_eq_true]
  refine ⟨hl, fun y hy => ?_⟩
  obtain ⟨c, hc, rfl⟩ := List.mem_map.mp hy
  have := h c hc
  simp [inR]
  omega
theorem order25 {x : D} (hS : belows S.length S = true) (hm : os.length + sp ≤ 10) (hx : Og x) : callF Ir.P fu (n + 3) 25 [.d (wishQ os ls sp), .d x] S = .ok (.d (.bl (ordB (os.length + sp) x))) S := by
  have e23 := all23 (fu := fu) (n := n + 1) (os := os) (ls := ls) (sp := sp) hS
  have e5 := F4 (fu := fu) (n := n + 1) (a := 0) (b := 60) hS hx.p
  have e3 : ∀ y a b, pl y = true → callF Ir.P fu (n + 2) 3 [.d y, .d (.int a), .d (.int b)] S = .ok (.d (.bl (inR y a b))) S := fun y a b hy => F2 hS hy
  refine runD (fd := Ir.f25) rfl rfl rfl hS ?_
  generalize callF Ir.P fu (n + 2) = cf at *
  have c4 : Ir.P.consts[4]? = some (.int 60) := rfl
  by_cases hs : isSz x 0 60 = true
  · cases x <;> (first | (simp [isSz] at hs; done) | skip)
    rename_i xs
    have h2 := hx.t _ rfl
    have key := lcNm (C := ⟨cf, Ir.P, fu⟩) (i := 2) (e := .call 3 (.cons (.var 2) (.cons (.int 0) (.cons (.bin .sub (.call 23 (.cons (.var 0) .nil)) (.int 1)) .nil)))) (η := [some (.d (wishQ os ls sp)), some (.d (.tup xs)), none]) (S := S) (fun y => .bl (inR y 0 (((os.length + sp : Nat) : Int) - 1))) (xs := xs) (ln100 h2.1) (by simp) (fun y hy => by simp only [Int.natCast_add] at e23; simp [getV, e23, e3 y _ _ (h2.2 y hy)])
    have hlen : xs.length ≤ 60 := by simp [isSz] at hs; omega
    simp [Ir.f25, startE, getV, c4, e5, hs, wipeE] at key ⊢
    rw [key]
    have hab := allB_map (fun y => inR y 0 (((os.length + sp : Nat) : Int) - 1)) xs
    simp only [Int.natCast_add] at hab
    simp [ordB, hlen, hab]
  · simp only [Bool.not_eq_true] at hs
    have hb : ordB (os.length + sp) x = false := by
      cases x <;> (first | rfl | skip)
      rename_i xs
      have : ¬ xs.length ≤ 60 := by
        intro h
        simp [isSz] at hs
        omega
      simp [ordB, this]
    simp [Ir.f25, startE, getV, c4, e5, hs, hb]
section
variable {C : Ctx} {η : Env} {S : Store}
theorem x_ifb {c a b rest} : execB C (.ifb c a b rest) η S = (((evalP C c).2 η S).bnd fun k S1 => if k = true then execB C a η S1 else execB C b η S1).bnd fun f S1 => match f with
    | .nx η1 => noExc (execSs C rest η1 S1)
    | f => .ok f S1 := id rfl
theorem x_rai {c : Nat} {k : ClD} (h : C.P.cls[c]? = some k) (he : k.exc = some []) : execS C (.raise c .nil) η S = .exc c [] S := by
  rw [x_raise, h]
  simp [he, fieldsOf]
end
theorem check26 {x : D} (hS : belows S.length S = true) (hm : os.length + sp ≤ 10) (hx : Og x) : callF Ir.P fu (n + 4) 26 [.d (wishQ os ls sp), .d x] S = if ordB (os.length + sp) x = true then .ok (.d .non) S else .exc 2 [] S := by
  have e25 := order25 (fu := fu) (n := n) (os := os) (ls := ls) (sp := sp) hS hm hx
  cases hb : ordB (os.length + sp) x with
  | true =>
    rw [hb] at e25
    rw [if_pos rfl]
    rw [runT (fd := Ir.f26) rfl rfl]
    generalize callF Ir.P fu (n + 3) = cf at *
    simp [Ir.f26, startE, getV, e25, finish, close, freeze, hS]
  | false =>
    rw [hb] at e25
    simp only [Bool.false_eq_true, if_false]
    refine runX (fd := Ir.f26) rfl rfl rfl hS ?_
    have hr : ∀ η S, execS ⟨callF Ir.P fu (n + 3), Ir.P, fu⟩ (.raise 2 .nil) η S = .exc 2 [] S := fun η S => x_rai rfl rfl
    generalize callF Ir.P fu (n + 3) = cf at *
    simp [Ir.f26, startE, getV, e25, hr]
end K07
/-! SO: stages and lack, let or refused; the law's stages. -/
namespace K07
open RI EU LinQ
variable {fu n m t sp : Nat} {S : Store} {os : List (Option (List Rat))} {ls : List Int}
theorem stages34 {o : List Nat} (hS : belows S.length S = true) (hm : os.length + sp ≤ 10) (ho : o.length ≤ 60) (hc : ∀ c ∈ o, c < os.length + sp) (ht : t ≤ o.length) :
    callF Ir.P fu (n + 5) 34 [.d (wishQ os ls sp), .d (natsD o), .d (.int (t : Nat))] S = .ok (.d (wordsD (words os sp o t))) S := by
  have hog : Og (natsD o) := ⟨rfl, fun xs e => by
    cases e
    refine ⟨by simp [natL]; omega, fun y hy => ?_⟩
    obtain ⟨c, _, rfl⟩ := List.mem_map.mp hy
    rfl⟩
  have e26 := check26 (fu := fu) (n := n) (os := os) (ls := ls) (sp := sp) hS hm hog
  rw [ordB_nats ho hc, if_pos rfl] at e26
  have e3 := F2 (fu := fu) (n := n + 2) (x := .int (t : Nat)) (a := 0) (b := (o.length : Nat)) hS rfl
  have hin : inR (.int (t : Nat)) 0 ((o.length : Nat) : Int) = true := by simp [inR]; omega
  rw [hin] at e3
  have e27 := ticks27 (fu := fu) (n := n + 3) (o := o) hS (by omega)
  have e29 := stages29 (fu := fu) (n := n + 1) (t := t) (os := os) (ls := ls) (sp := sp) (o := o) hS (by omega) hm
  refine runD (fd := Ir.f34) rfl rfl rfl hS ?_
  generalize callF Ir.P fu (n + 4) = cf at *
  have hlen : (natL o).length = o.length := by simp [natL]
  simp only [natsD] at *
  simp [Ir.f34, startE, getV, e26, hlen, e3, e27, e29]
theorem lack35 {o : List Nat} (hS : belows S.length S = true) (hfu : 1000000 < fu) (h : Wo os) (hsp : sp ≤ 2) (ho : o.length ≤ 60) (hc : ∀ c ∈ o, c < os.length + sp) (ht : t ≤ o.length) :
    callF Ir.P fu (n + 10) 35 [.d (wishQ os ls sp), .d (natsD o), .d (.int (t : Nat))] S = .ok (.d (lackD os (words os sp o t))) S := by
  have hl5 := h.l5
  have e34 := stages34 (fu := fu) (n := n + 4) (t := t) (os := os) (ls := ls) (sp := sp) (o := o) hS (by omega) ho hc ht
  have e33 := lack33 (fu := fu) (n := n) (ls := ls) (sp := sp) hS hfu h (words_ok (o := o) (t := t) h hsp)
  refine runD (fd := Ir.f35) rfl rfl rfl hS ?_
  generalize callF Ir.P fu (n + 9) = cf at *
  simp [Ir.f35, startE, getV, e34, e33]
/-- refused -/
theorem stages34a {x y : D} (hS : belows S.length S = true) (hm : os.length + sp ≤ 10) (hx : Og x) (hb : ordB (os.length + sp) x = false) :
    callF Ir.P fu (n + 5) 34 [.d (wishQ os ls sp), .d x, .d y] S = .exc 2 [] S := by
  have e26 := check26 (fu := fu) (n := n) (os := os) (ls := ls) (sp := sp) hS hm hx
  rw [hb] at e26
  simp only [Bool.false_eq_true, if_false] at e26
  refine runX (fd := Ir.f34) rfl rfl rfl hS ?_
  generalize callF Ir.P fu (n + 4) = cf at *
  simp [Ir.f34, startE, getV, e26]
theorem stages34b {o : List Nat} {y : D} (hS : belows S.length S = true) (hm : os.length + sp ≤ 10) (ho : o.length ≤ 60) (hc : ∀ c ∈ o, c < os.length + sp) (hy : pl y = true) (hin : inR y 0 (o.length : Nat) = false) :
    callF Ir.P fu (n + 5) 34 [.d (wishQ os ls sp), .d (natsD o), .d y] S = .exc 3 [] S := by
  have hog : Og (natsD o) := ⟨rfl, fun xs e => by
    cases e
    refine ⟨by simp [natL]; omega, fun y hy => ?_⟩
    obtain ⟨c, _, rfl⟩ := List.mem_map.mp hy
    rfl⟩
  have e26 := check26 (fu := fu) (n := n) (os := os) (ls := ls) (sp := sp) hS hm hog
  rw [ordB_nats ho hc, if_pos rfl] at e26
  have e3 := F2 (fu := fu) (n := n + 2) (x := y) (a := 0) (b := (o.length : Nat)) hS hy
  rw [hin] at e3
  have hr : ∀ η S, execS ⟨callF Ir.P fu (n + 4), Ir.P, fu⟩ (.raise 3 .nil) η S = .exc 3 [] S := fun η S => x_rai rfl rfl
  refine runX (fd := Ir.f34) rfl rfl rfl hS ?_
  generalize callF Ir.P fu (n + 4) = cf at *
  have hlen : (natL o).length = o.length := by simp [natL]
  simp only [natsD] at *
  simp [Ir.f34, startE, getV, e26, hlen, e3, hr]
theorem lack35x {x y : D} {c : Nat} (hS : belows S.length S = true) (h : callF Ir.P fu (n + 9) 34 [.d (wishQ os ls sp), .d x, .d y] S = .exc c [] S) : callF Ir.P fu (n + 10) 35 [.d (wishQ os ls sp), .d x, .d y] S = .exc c [] S := by
  refine runX (fd := Ir.f35) rfl rfl rfl hS ?_
  generalize callF Ir.P fu (n + 9) = cf at *
  simp [Ir.f35, startE, getV, h]
/-! ### the law's -/
theorem at3_0 (a b c : D) : L2.atI [a, b, c] 0 = some a := rfl
theorem stages53 {o : List Nat} (hS : belows S.length S = true) (hm : os.length + sp ≤ 10) : callF Ir.P fu (n + 2) 53 [.d (specQ os ls sp), .d (natsD o), .d (.int (t : Nat))] S = .ok (.d (wordsD (words os sp o t))) S := by
  have e52 : ∀ S : Store, belows S.length S = true → callF Ir.P fu (n + 1) 52 [.d (specQ os ls sp)] S = .ok (.d (.int ((os.length + sp : Nat) : Int))) S := fun S hS => all52 hS
  refine runDT (fd := Ir.f53) rfl rfl rfl hS ?_
  generalize callF Ir.P fu (n + 1) = cf at *
  have w0 : wordD 0 = .str [110, 111, 116, 32, 98, 101, 103, 117, 110] := rfl
  have w1 : wordD 1 = .str [100, 111, 110, 101] := rfl
  have w2 : wordD 2 = .str [97, 109, 105, 100] := rfl
  have ct : cut (natL o) none (some (t : Int)) = natL (o.take t) := by unfold natL; rw [cut_map, cut_to]
  have cd : cut (natL o) (some (t : Int)) none = natL (o.drop t) := by unfold natL; rw [cut_map, cut_from]
  have hB : belows (S ++ [Cell.lst []]).length (S ++ [Cell.lst []]) = true := belows_lst (L := [Cell.lst []]) hS (by simp)
  have e52' := e52 _ hB
  have L := Tot.forR (set := setT ⟨cf, Ir.P, fu⟩ (.nm 4)) (body := execSs ⟨cf, Ir.P, fu⟩ Ir.f53b0) (fun c : Nat => D.int c) (fun (F : List D) c => F ++ [wordD (word os o t c)])
    (fun zs F η S' => ((∃ w4 w5 w6, η = [some (.d (specQ os ls sp)), some (.d (natsD o)), some (.d (.int (t : Nat))), some (.loc S.length), w4, w5, w6]) ∧ S' = S ++ [.lst F]) ∧ F.length + zs.length ≤ 10 ∧ ∀ c ∈ zs, c < os.length + sp)
    (fun c zs F η S' => by
      rintro ⟨⟨⟨w4, w5, w6, rfl⟩, rfl⟩, hF, hz⟩
      have hcm := hz c (by simp)
      simp only [List.length_cons] at hF
      have hFl : F.length < line := by unfold line; omega
      have fin : (F ++ [wordD (word os o t c)]).length + zs.length ≤ 10 ∧ ∀ c ∈ zs, c < os.length + sp := ⟨by simp; omega, fun y hy => hz y (by simp [hy])⟩
      have n1 := nin_nat (C := ⟨cf, Ir.P, fu⟩) (S := S ++ [.lst F]) (c := c) (seq_tup (S := S ++ [.lst F]) (ls := o.take t))
      have n2 := nin_nat (C := ⟨cf, Ir.P, fu⟩) (S := S ++ [.lst F]) (c := c) (seq_tup (S := S ++ [.lst F]) (ls := o.drop t))
      rw [st_nm, if_pos (by simp), bnd_ok]
      have hwv : ∀ w, word os o t c = w → (F ++ [wordD (word os o t c)]) = F ++ [wordD w] := fun w e => by rw [e]
      simp only [natsD] at n1 n2
      by_cases h2 : c < os.length
      · have h2' : (c : Int) < (os.length : Nat) := by omega
        have hat := opt_d (os := os) h2
        have hhas : hasAt os c = (os.getD c none).isSome := rfl
        generalize os.getD c none = x at *
        by_cases h1 : c ∈ o.take t
        · cases x with
          | none =>
            have hw : word os o t c = 2 := by simp [word, h1, hhas]
            rw [hw] at fin ⊢
            simp [getV, specQ, at3_0, h2', h2, hat, optD, tyOk0, tyIs, slD, seqOf, natsD, ct, cd, n1, h1, hFl, w2] at fin ⊢
            exact fin
          | some r =>
            by_cases h3 : c ∈ o.drop t
            · have hw : word os o t c = 2 := by simp [word, h1, hhas, h3]
              rw [hw] at fin ⊢
              simp [getV, specQ, at3_0, h2', h2, hat, optD, rowQ, tyOk0, tyIs, slD, seqOf, natsD, ct, cd, n1, n2, h1, h3, hFl, w2] at fin ⊢
              exact fin
            · have hw : word os o t c = 1 := by simp [word, h1, hhas, h3]
              rw [hw] at fin ⊢
              simp [getV, specQ, at3_0, h2', h2, hat, optD, rowQ, tyOk0, tyIs, slD, seqOf, natsD, ct, cd, n1, n2, h1, h3, hFl, w1] at fin ⊢
              exact fin
        · have hw : word os o t c = 0 := by simp [word, h1]
          rw [hw] at fin ⊢
          cases x with
          | none =>
            simp [getV, specQ, at3_0, h2', h2, hat, optD, tyOk0, tyIs, slD, seqOf, natsD, ct, cd, n1, h1, hFl, w0] at fin ⊢
            exact fin
          | some r =>
            simp [getV, specQ, at3_0, h2', h2, hat, optD, rowQ, tyOk0, tyIs, slD, seqOf, natsD, ct, cd, n1, h1, hFl, w0] at fin ⊢
            exact fin
      · have h2' : ¬ (c : Int) < (os.length : Nat) := by omega
        have hhas : hasAt os c = false := by
          unfold hasAt
          rw [List.getD_eq_getElem?_getD, List.getElem?_eq_none (by omega)]
          rfl
        by_cases h1 : c ∈ o.take t
        · have hw : word os o t c = 2 := by simp [word, h1, hhas]
          rw [hw] at fin ⊢
          simp [getV, specQ, at3_0, h2', h2, tyOk0, tyIs, slD, seqOf, natsD, ct, cd, n1, h1, hFl, w2] at fin ⊢
          exact fin
        · have hw : word os o t c = 0 := by simp [word, h1]
          rw [hw] at fin ⊢
          simp [getV, specQ, at3_0, h2', h2, tyOk0, tyIs, slD, seqOf, natsD, ct, cd, n1, h1, hFl, w0] at fin ⊢
          exact fin)
    (List.range (os.length + sp)) [] [some (.d (specQ os ls sp)), some (.d (natsD o)), some (.d (.int (t : Nat))), some (.loc S.length), none, none, none] (S ++ [.lst []]) ⟨⟨⟨_, _, _, rfl⟩, rfl⟩, by simpa using hm, fun c hc => List.mem_range.mp hc⟩
  have rl := rl10 (m := os.length + sp) (by omega)
  have hfold : ∀ (l : List Nat) (F : List D), l.foldl (fun F c => F ++ [wordD (word os o t c)]) F = F ++ l.map fun c => wordD (word os o t c) := by
    intro l
    induction l with
    | nil => intro F; simp
    | cons c l ih => intro F; rw [List.foldl_cons, ih]; simp
  rw [hfold] at L
  have hr : (((os.length : Int) + (sp : Int)).toNat) = os.length + sp := by omega
  simp only [Int.natCast_add] at e52' rl
  simp [-List.map_map, Ir.f53, startE, getV, thawD, forSrc, e52', rl, hr]
  refine Tot.seq L ?_
  rintro f S' ⟨η', rfl, ⟨⟨w4, w5, w6, rfl⟩, rfl⟩, _⟩
  have hw : D.tup ((List.range (os.length + sp)).map fun c => wordD (word os o t c)) = wordsD (words os sp o t) := by simp [wordsD, words]
  simp [-List.map_map, getV, biD, seqOf, hw]
end K07
/-! SP: orders drawn. -/
namespace K07
open RI EU LinQ QP
section
variable {fu n N M : Nat} {S : Store} {p : Po} {T : Store} {os : List (Option (List Rat))} {ls : List Int} {sp : Nat}
theorem comp_poolL {C : Ctx} {i L : Nat} {e : IE} {η : Env} {xs : List D} (G : D → Prop) (k : Nat) (hi : i < η.length) (hl : xs.length ≤ L) (hL : L ≤ 1000) (h : p.Ok N) (hN : N + L * k + 100 < 1000000)
    (he : ∀ x ∈ xs, ∀ (p' : Po) (N' : Nat), p'.Ok N' → N' + k ≤ N + L * k → Tot ((evalP C e).1 (η.set i (some (.d x))) (p'.st ++ T)) (GenT G k N' T)) :
    Tot (lcSrc (setT C (.nm i)) (evalC C .no) (evalP C e).1 η (.fix xs) (p.st ++ T)) fun zs S' => zs.length = xs.length ∧ (∀ z ∈ zs, G z) ∧ ∃ p' : Po, S' = p'.st ++ T ∧ p'.Ok (N + L * k) := by
  have hm : xs.length * k ≤ L * k := Nat.mul_le_mul_right k hl
  have := Tot.lcG (set := setT C (.nm i)) (tst := evalC C .no) (elt := (evalP C e).1) (η := η) G (fun j S => ∃ p', S = Po.st p' ++ T ∧ p'.Ok (N + j * k)) (xs := xs) (fun η S => by rw [ec_no]) ?_ xs [] 0 (p.st ++ T) (fun _ h => h) (by simp) (by simp; exact ln100 (by omega)) (by simp) ⟨p, rfl, by simpa using h⟩
  · refine Tot.mono this ?_
    rintro zs S' ⟨h1, h2, p', h3, h4⟩
    exact ⟨by simpa using h1, h2, p', h3, h4.up (by omega)⟩
  · rintro x hx j S ⟨p', rfl, k'⟩ hj
    have hj' : (j + 1) * k ≤ xs.length * k := Nat.mul_le_mul_right k hj
    have hjk : (j + 1) * k = j * k + k := Nat.succ_mul j k
    rw [st_nm, if_pos hi, bnd_ok]
    refine (he x hx p' _ k' (by omega)).mono ?_
    rintro w S' ⟨y, p2, rfl, rfl, hy, k2⟩
    exact ⟨y, rfl, hy, p2, rfl, k2.up (by omega)⟩
def NatG (M : Nat) (x : D) : Prop := ∃ c : Nat, x = .int c ∧ c < M
theorem nats_ex : ∀ {ys : List D}, (∀ y ∈ ys, NatG M y) → ∃ q : List Nat, ys = natL q ∧ ∀ c ∈ q, c < M
  | [], _ => ⟨[], rfl, by simp⟩
  | y :: ys, h => by
    obtain ⟨q, rfl, hq⟩ := nats_ex (ys := ys) fun z hz => h z (by simp [hz])
    obtain ⟨c, rfl, hc⟩ := h y (by simp)
    refine ⟨c :: q, rfl, fun b hb => ?_⟩
    rcases List.mem_cons.mp hb with rfl | hb
    · exact hc
    · exact hq b hb
theorem natL_len {q : List Nat} : (natL q).length = q.length := by simp [natL]
theorem in_flat {C : Ctx} {c : Int} {ls : List Int} : cmpW C .nin (.d (.int c)) (.d (.tup (ls.map .int))) S = .ok (.d (.bl (!decide (c ∈ ls)))) S := by
  have h2 : (ls.map D.int).all flatD = true := by simp [flatD]
  have h3 : inD (.d (.int c)) (.d (.tup (ls.map .int))) S = some (decide (c ∈ ls)) := by
    have e : inD (.d (.int c)) (.d (.tup (ls.map .int))) S = pyIn .tup (.int c) (ls.map .int) := rfl
    rw [e]
    unfold pyIn
    rw [h2, show flatD (D.int c) = true from rfl]
    simp only [Bool.and_self, if_true]
    congr 1
    rw [Bool.eq_iff_iff]
    simp [eqF]
  unfold cmpW
  simp only [cmpD, h3, Option.map_some, ofO_some, Res.bind_ok, bnd_ok]
/-- a list of cells -/
def OkO (M l : Nat) (q : List Nat) : Prop := q.length ≤ l ∧ ∀ c ∈ q, c < M
theorem OkO.app {a b : Nat} {q r : List Nat} (h : OkO M a q) (h' : OkO M b r) : OkO M (a + b) (q ++ r) := ⟨by rw [List.length_append]; exact Nat.add_le_add h.1 h'.1, fun c hc => by
  rcases List.mem_append.mp hc with hc | hc
  · exact h.2 c hc
  · exact h'.2 c hc⟩
theorem OkO.up {a b : Nat} {q : List Nat} (h : OkO M a q) (hab : a ≤ b) : OkO M b q := ⟨Nat.le_trans h.1 hab, h.2⟩
theorem OkO.rev {a : Nat} {q : List Nat} (h : OkO M a q) : OkO M a q.reverse := ⟨by simpa using h.1, fun c hc => h.2 c (by simpa using hc)⟩
theorem OkO.drop {a k : Nat} {q : List Nat} (h : OkO M a q) : OkO M a (q.drop k) := ⟨by rw [List.length_drop]; have := h.1; omega, fun c hc => h.2 c (List.mem_of_mem_drop hc)⟩
theorem OkO.take {a k : Nat} {q : List Nat} (h : OkO M a q) : OkO M a (q.take k) := ⟨by rw [List.length_take]; have := h.1; omega, fun c hc => h.2 c (List.mem_of_mem_take hc)⟩
def OrdG (M l : Nat) (x : D) : Prop := ∃ o, x = natsD o ∧ OkO M l o
def OrdT (cf : Nat → List W → Store → Res W) : Prop := ∀ {N : Nat} {p : Po} {T : Store} {M sp : Nat} {os : List (Option (List Rat))} {ls : List Int}, p.Ok N → N + 1000 < 1000000 → os.length + sp = M → 1 ≤ M → M ≤ 7 → (∀ k, belows k T = true) → Tot (cf 57 [.loc 1, .d (specQ os ls sp)] (p.st ++ T)) (GenT (OrdG M 14) 200 N T)
abbrev e57 (s : D) (w2 w3 w4 w5 : Option W) : Env := [some (.loc 1), some (.d s), w2, w3, w4, w5, none, none]
variable {cf : Nat → List W → Store → Res W}
theorem add_natL {a b : List Nat} (ha : a.length ≤ 100) (hb : b.length ≤ 100) : binD .add (.d (.lst (natL a))) (.d (.lst (natL b))) S = some (.lst (natL (a ++ b))) := by
  rw [add_lst (by rw [natL_len]; exact ha) (by rw [natL_len]; exact hb)]
  simp [natL]
theorem natL_rev {a : List Nat} : (natL a).reverse = natL a.reverse := by simp [natL]
theorem natL_drop {a : List Nat} {k : Nat} : cut (natL a) (some (k : Int)) none = natL (a.drop k) := by unfold natL; rw [cut_map, cut_from]
theorem natL_take {a : List Nat} {k : Nat} : cut (natL a) none (some (k : Int)) = natL (a.take k) := by unfold natL; rw [cut_map, cut_to]
/-- the cells in a drawn order, those that are not locked -/
theorem c57_0 (h38 : MixT cf) (h : p.Ok N) (hN : N + 500 < 1000000) (hM : M ≤ 7) (hT : ∀ k, belows k T = true) :
    Tot ((evalP ⟨cf, Ir.P, fu⟩ Ir.f57c0).1 (e57 (specQ os ls sp) (some (.d (.int (M : Nat)))) none none none) (p.st ++ T)) (GenT (fun x => ∃ q, x = .lst (natL q) ∧ OkO M M q) 100 N T) := by
  have rl : (-lineR ≤ (M : Int)) ∧ M < 16777216 := by unfold lineR; omega
  simp [getV, rl, wipeE]
  refine ⟨by omega, ?_⟩
  refine Tot.seq (h38 (NatG M) (m := M) (xs := (List.range M).map fun i => D.int (i : Nat)) h (by omega) (by simp) (by omega) (fun y hy => ?_) hT) ?_
  · obtain ⟨i, hi, rfl⟩ := List.mem_map.mp hy
    exact ⟨i, rfl, List.mem_range.mp hi⟩
  · rintro _ _ ⟨_, p', rfl, rfl, ⟨xs, rfl, hx1, hx2⟩, k'⟩
    obtain ⟨q, rfl, hq⟩ := nats_ex hx2
    rw [natL_len] at hx1
    have a1 : ∀ a b c : D, L2.atI [a, b, c] 1 = some b := fun _ _ _ => rfl
    have key := lcFil (C := ⟨cf, Ir.P, fu⟩) (i := 6) (e := .var 6) (c := .cmp .nin (.var 6) (.ix (.var 1) (.int 1))) (η := e57 (specQ os ls sp) (some (.d (.int (M : Nat)))) none none none) (S := p'.st ++ T) (fun c : Nat => .int c) (fun c => .int c) (fun c => !decide ((c : Int) ∈ ls)) (zs := q) (ln100 (by omega)) (by simp)
      (fun c hc => by simp [getV, specQ, a1, lockD, in_flat])
      (fun c hc _ => by simp [getV])
    simp only [natL] at *
    simp [-List.map_map, lcSrc] at key ⊢
    rw [key]
    simp
    refine ⟨_, p', rfl, rfl, ⟨_, rfl, Nat.le_trans (List.length_filter_le _ _) (by omega), fun c hc => hq c (List.mem_filter.mp hc).1⟩, k'.up (by omega)⟩
theorem c57_1 (hd : DrawT cf) {w3 w4 w5 : Option W} (h : p.Ok N) (hN : N + 500 < 1000000) (hM1 : 1 ≤ M) (hM : M ≤ 7) (hT : ∀ k, belows k T = true) :
    Tot ((evalP ⟨cf, Ir.P, fu⟩ Ir.f57c1).1 (e57 (specQ os ls sp) (some (.d (.int (M : Nat)))) w3 w4 w5) (p.st ++ T)) (GenT (fun x => ∃ q, x = .lst (natL q) ∧ OkO M 8 q) 20 N T) := by
  simp [getV, wipeE]
  refine Tot.seq (hd h (by omega) (by decide) (by decide) hT) ?_
  rintro _ _ ⟨r, p1, rfl, rfl, r0, r1, k1⟩
  obtain ⟨b, rfl⟩ : ∃ b : Nat, r = b := ⟨r.toNat, by omega⟩
  have rl := rl10 (m := b) (by omega)
  simp [rl]
  refine Tot.seq (comp_poolL (L := 8) (NatG M) 1 (by simp) (by simp; omega) (by omega) k1 (by omega) ?_) ?_
  · rintro x hx p' N' k' hN'
    simp [getV]
    refine Tot.mono (hd k' (by omega) (by omega) (by omega) hT) ?_
    rintro _ _ ⟨r, p2, rfl, rfl, r0, r1, k2⟩
    obtain ⟨b, rfl⟩ : ∃ b : Nat, r = b := ⟨r.toNat, by omega⟩
    exact ⟨_, p2, rfl, rfl, ⟨b, rfl, by omega⟩, k2⟩
  · rintro zs _ ⟨h1, h2, p', rfl, k'⟩
    obtain ⟨q, rfl, hq⟩ := nats_ex h2
    rw [natL_len] at h1
    simp at h1
    simp
    exact ⟨_, p', rfl, rfl, ⟨q, rfl, by omega, hq⟩, k'.up (by omega)⟩
theorem c57_2 (hd : DrawT cf) {w3 w5 : Option W} {o : List Nat} (ho : OkO M 14 o) (h : p.Ok N) (hN : N + 500 < 1000000) (hT : ∀ k, belows k T = true) :
    Tot ((evalP ⟨cf, Ir.P, fu⟩ Ir.f57c2).1 (e57 (specQ os ls sp) (some (.d (.int (M : Nat)))) w3 (some (.d (.lst (natL o)))) w5) (p.st ++ T)) (GenT (fun x => ∃ q, x = .lst (natL q) ∧ OkO M 14 q) 20 N T) := by
  simp [getV, wipeE]
  have hol : (natL o).length ≤ 14 := by rw [natL_len]; exact ho.1
  refine Tot.seq (Tot.lcF (set := setT ⟨cf, Ir.P, fu⟩ (.nm 6)) (tst := evalC ⟨cf, Ir.P, fu⟩ (.yes (.cmp .gt (.call 37 (.cons (.var 0) (.cons (.int 6) .nil))) (.int 0)))) (elt := (evalP ⟨cf, Ir.P, fu⟩ (.var 6)).1) (NatG M) (fun j S => ∃ p', S = Po.st p' ++ T ∧ p'.Ok (N + j)) (xs := natL o) ?_ (natL o) [] 0 (p.st ++ T) (fun _ h => h) (by simp) (by simp; exact ln100 (by omega)) (by simp) ⟨p, rfl, by simpa using h⟩) ?_
  · rintro x hx j acc S ⟨p', rfl, k'⟩ hj hacc
    obtain ⟨c, hc, rfl⟩ := List.mem_map.mp hx
    rw [lcTurn]
    simp only [bind_bnd]
    simp [ec_yes, getV]
    refine Tot.seq (hd k' (by omega) (by decide) (by decide) hT) ?_
    rintro _ _ ⟨r, p2, rfl, rfl, r0, r1, k2⟩
    by_cases hr : 0 < r
    · simp [hr, getV, hacc]
      exact ⟨⟨c, rfl, ho.2 c hc⟩, p2, rfl, k2⟩
    · simp [hr]
      exact ⟨p2, rfl, k2⟩
  · rintro zs _ ⟨h1, h2, p', rfl, k'⟩
    obtain ⟨q, rfl, hq⟩ := nats_ex h2
    rw [natL_len] at h1
    simp at h1
    simp
    exact ⟨_, p', rfl, rfl, ⟨q, rfl, by rw [natL_len] at h1; have := ho.1; omega, hq⟩, k'.up (by omega)⟩
end
end K07
/-! SQ: an order drawn, whole; what is an order, by the law; the words of refusal. -/
namespace K07
open RI EU LinQ QP
section
variable {fu n N M m : Nat} {S : Store} {p : Po} {T : Store} {os : List (Option (List Rat))} {ls : List Int} {sp : Nat} {cf : Nat → List W → Store → Res W}
theorem order57 : OrdT (callF Ir.P fu (n + 3)) := by
  intro N p T M sp os ls h hN hM hM1 hM7 hT
  have hd : DrawT (callF Ir.P fu (n + 2)) := F12
  have h38 : MixT (callF Ir.P fu (n + 2)) := F13'
  have e52 : ∀ S : Store, belows S.length S = true → callF Ir.P fu (n + 2) 52 [.d (specQ os ls sp)] S = .ok (.d (.int ((os.length + sp : Nat) : Int))) S := fun S hS => all52 hS
  rw [runT (fd := Ir.f57) rfl rfl]
  generalize callF Ir.P fu (n + 2) = cf at *
  refine Tot.fin ?_
  have hl2 : (p.st ++ T).length = 2 + T.length := by simp [Po.st]; omega
  rw [hl2]
  suffices hh : Tot (execSs ⟨cf, Ir.P, fu⟩ Ir.f57.body (startE Ir.f57.N.length [.loc 1, .d (specQ os ls sp)]) (p.st ++ T)) (fun f S => ∃ x p', f = .ret (.d x) ∧ S = Po.st p' ++ T ∧ OrdG M 14 x ∧ p'.Ok (N + 200)) by
    refine hh.mono ?_
    rintro f S ⟨x, p', rfl, rfl, g, k'⟩
    exact fin_q0 (Q := GenT (OrdG M 14) 200 N T) hT ⟨x, p', rfl, rfl, g, k'⟩
  have e52' := e52 _ (bl_st (p := p) hT)
  rw [hM] at e52'
  simp only [Ir.f57, startE]
  refine Tot.se (C := ⟨cf, Ir.P, fu⟩) (η' := e57 (specQ os ls sp) (some (.d (.int (M : Nat)))) none none none) (by simp [getV, e52']) ?_
  refine Tot.st (C := ⟨cf, Ir.P, fu⟩) (fun η' S' => ∃ q p', η' = e57 (specQ os ls sp) (some (.d (.int (M : Nat)))) (some (.d (.lst (natL q)))) none none ∧ S' = Po.st p' ++ T ∧ OkO M M q ∧ p'.Ok (N + 100)) ?_ ?_
  · rw [show execS ⟨cf, Ir.P, fu⟩ Ir.f57s1 (e57 (specQ os ls sp) (some (.d (.int (M : Nat)))) none none none) (p.st ++ T) = ((evalP ⟨cf, Ir.P, fu⟩ Ir.f57c0).1 (e57 (specQ os ls sp) (some (.d (.int (M : Nat)))) none none none) (p.st ++ T)).bnd fun w S1 => (noExc (setT ⟨cf, Ir.P, fu⟩ (.nm 3) w (e57 (specQ os ls sp) (some (.d (.int (M : Nat)))) none none none) S1)).bnd fun η1 S2 => .ok (.nx η1) S2 from id rfl]
    refine Tot.seq (c57_0 h38 h (by omega) hM7 hT) ?_
    rintro _ _ ⟨_, p', rfl, rfl, ⟨q, rfl, hq⟩, k'⟩
    simp
    exact TQ.mk ⟨q, p', rfl, rfl, hq, k'⟩
  rintro _ _ ⟨q, p1, rfl, rfl, hq, k1⟩
  have hq7 : q.length ≤ 7 := Nat.le_trans hq.1 hM7
  have o1 : OkO M 14 (q ++ q.reverse.drop 1) := (hq.app (hq.rev.drop (k := 1))).up (by omega)
  have d1 : cut (natL q.reverse) (some 1) none = natL (q.reverse.drop 1) := natL_drop (k := 1)
  have t1 : cut (natL q) none (some 1) = natL (q.take 1) := natL_take (k := 1)
  have hr1 : (natL q).length ≤ 1000 := by rw [natL_len]; omega
  have hdl : (q.reverse.drop 1).length ≤ 7 := by simp; omega
  generalize q.reverse.drop 1 = d at *
  have ad1 : ∀ S : Store, binD .add (.d (.lst (natL q))) (.d (.lst (natL d))) S = some (.lst (natL (q ++ d))) := fun S => add_natL (by omega) (by omega)
  refine Tot.se (C := ⟨cf, Ir.P, fu⟩) (η' := e57 (specQ os ls sp) (some (.d (.int (M : Nat)))) (some (.d (.lst (natL q)))) (some (.d (.lst (natL (q ++ d))))) none) (by simp [getV, hr1, natL_rev, slD, seqOf, d1, ad1]) ?_
  refine Tot.st (C := ⟨cf, Ir.P, fu⟩) (fun η' S' => ∃ (r : Int) (p' : Po), η' = e57 (specQ os ls sp) (some (.d (.int (M : Nat)))) (some (.d (.lst (natL q)))) (some (.d (.lst (natL (q ++ d))))) (some (.d (.int r))) ∧ S' = Po.st p' ++ T ∧ p'.Ok (N + 101)) ?_ ?_
  · simp [getV]
    refine Tot.seq (hd k1 (by omega) (by decide) (by decide) hT) ?_
    rintro _ _ ⟨r, p', rfl, rfl, r0, r1, k'⟩
    simp
    exact TQ.mk ⟨r, p', rfl, rfl, k'⟩
  rintro _ _ ⟨r, p2, rfl, rfl, k2⟩
  generalize q ++ d = o at *
  refine Tot.st (C := ⟨cf, Ir.P, fu⟩) (fun η' S' => ∃ (o : List Nat) (p' : Po), η' = e57 (specQ os ls sp) (some (.d (.int (M : Nat)))) (some (.d (.lst (natL q)))) (some (.d (.lst (natL o)))) (some (.d (.int r))) ∧ S' = Po.st p' ++ T ∧ OkO M 14 o ∧ p'.Ok (N + 121)) ?_ ?_
  · by_cases hr : r = 0
    · subst hr
      have hx := c57_1 (os := os) (ls := ls) (sp := sp) (fu := fu) hd (w3 := some (.d (.lst (natL q)))) (w4 := some (.d (.lst (natL o)))) (w5 := some (.d (.int 0))) k2 (by omega) hM1 hM7 hT
      rw [show execS ⟨cf, Ir.P, fu⟩ Ir.f57s4 = execS ⟨cf, Ir.P, fu⟩ (.ife (.cmp .eq (.var 5) (.int 0)) (.cons (.asg (.nm 4) Ir.f57c1) .nil) .nil) from rfl]
      generalize Ir.f57c1 = ie at *
      simp [getV]
      refine Tot.seq hx ?_
      rintro _ _ ⟨_, p', rfl, rfl, ⟨o', rfl, ho'⟩, k'⟩
      simp
      exact TQ.mk ⟨o', p', rfl, rfl, ho'.up (by omega), k'⟩
    · simp [getV, hr]
      exact TQ.mk ⟨o, p2, rfl, rfl, o1, k2.up (by omega)⟩
  rintro _ _ ⟨o, p3, rfl, rfl, o3, k3⟩
  refine Tot.st (C := ⟨cf, Ir.P, fu⟩) (fun η' S' => ∃ (o : List Nat) (p' : Po), η' = e57 (specQ os ls sp) (some (.d (.int (M : Nat)))) (some (.d (.lst (natL q)))) (some (.d (.lst (natL o)))) (some (.d (.int r))) ∧ S' = Po.st p' ++ T ∧ OkO M 14 o ∧ p'.Ok (N + 141)) ?_ ?_
  · by_cases hr : r = 1
    · subst hr
      have hx := c57_2 (M := M) (os := os) (ls := ls) (sp := sp) (fu := fu) hd (w3 := some (.d (.lst (natL q)))) (w5 := some (.d (.int 1))) o3 k3 (by omega) hT
      rw [show execS ⟨cf, Ir.P, fu⟩ Ir.f57s5 = execS ⟨cf, Ir.P, fu⟩ (.ife (.cmp .eq (.var 5) (.int 1)) (.cons (.asg (.nm 4) Ir.f57c2) .nil) .nil) from rfl]
      generalize Ir.f57c2 = ie at *
      simp [getV]
      refine Tot.seq hx ?_
      rintro _ _ ⟨_, p', rfl, rfl, ⟨o', rfl, ho'⟩, k'⟩
      simp
      exact TQ.mk ⟨o', p', rfl, rfl, ho', k'⟩
    · simp [getV, hr]
      exact TQ.mk ⟨o, p3, rfl, rfl, o3, k3.up (by omega)⟩
  rintro _ _ ⟨o, p4, rfl, rfl, o4, k4⟩
  refine Tot.st (C := ⟨cf, Ir.P, fu⟩) (fun η' S' => ∃ (o : List Nat) (p' : Po), η' = e57 (specQ os ls sp) (some (.d (.int (M : Nat)))) (some (.d (.lst (natL q)))) (some (.d (.lst (natL o)))) (some (.d (.int r))) ∧ S' = Po.st p' ++ T ∧ OkO M 14 o ∧ p'.Ok (N + 151)) ?_ ?_
  · by_cases hr : r = 2
    · subst hr
      have hlq : (natL q).length = q.length := natL_len
      simp [getV, hlq]
      refine Tot.seq (hd k4 (by omega) (by omega) (by omega) hT) ?_
      rintro _ _ ⟨b, p', rfl, rfl, b0, b1, k'⟩
      obtain ⟨b, rfl⟩ : ∃ c : Nat, b = c := ⟨b.toNat, by omega⟩
      have tb : cut (natL q) none (some (b : Int)) = natL (q.take b) := natL_take
      have ad : ∀ S : Store, binD .add (.d (.lst (natL q))) (.d (.lst (natL (q.take b)))) S = some (.lst (natL (q ++ q.take b))) := fun S => add_natL (by omega) (by simp; omega)
      simp [slD, seqOf, tb, ad]
      exact TQ.mk ⟨_, p', rfl, rfl, (hq.app (hq.take (k := b))).up (by omega), k'.up (by omega)⟩
    · simp [getV, hr]
      exact TQ.mk ⟨o, p4, rfl, rfl, o4, k4.up (by omega)⟩
  rintro _ _ ⟨o, p5, rfl, rfl, o5, k5⟩
  refine Tot.st (C := ⟨cf, Ir.P, fu⟩) (fun η' S' => ∃ (o : List Nat) (p' : Po), η' = e57 (specQ os ls sp) (some (.d (.int (M : Nat)))) (some (.d (.lst (natL q)))) (some (.d (.lst (natL o)))) (some (.d (.int r))) ∧ S' = Po.st p' ++ T ∧ OkO M 14 o ∧ p'.Ok (N + 151)) ?_ ?_
  · by_cases hr : r = 3
    · subst hr
      have ad : ∀ S : Store, binD .add (.d (.lst (natL (q.take 1)))) (.d (.lst (natL q.reverse))) S = some (.lst (natL (q.take 1 ++ q.reverse))) := fun S => add_natL (by simp; omega) (by simp; omega)
      simp [getV, hr1, natL_rev, slD, seqOf, t1, ad]
      exact TQ.mk ⟨_, p5, rfl, rfl, ((hq.take (k := 1)).app hq.rev).up (by omega), k5⟩
    · simp [getV, hr]
      exact TQ.mk ⟨o, p5, rfl, rfl, o5, k5⟩
  rintro _ _ ⟨o, p6, rfl, rfl, o6, k6⟩
  simp [getV, biD, seqOf]
  exact ⟨p6, rfl, ⟨o, rfl, o6⟩, k6.up (by omega)⟩
/-! ### the law's look -/
theorem int58 {x : D} {a b : Int} (hS : belows S.length S = true) (hx : pl x = true) : callF Ir.P fu (n + 1) 58 [.d x, .d (.int a), .d (.int b)] S = .ok (.d (.bl (inR x a b))) S := by
  refine runD (fd := Ir.f58) rfl rfl rfl hS ?_
  generalize callF Ir.P fu n = cf
  cases x <;> (first | (simp [pl] at hx; done) | simp [Ir.f58, startE, getV, tyOk0, tyIs, inR])
  rename_i i
  by_cases h : a ≤ i <;> simp [h]
theorem order59 {x : D} (hS : belows S.length S = true) (hm : os.length + sp ≤ 10) (hx : Og x) : callF Ir.P fu (n + 2) 59 [.d (specQ os ls sp), .d x] S = .ok (.d (.bl (ordB (os.length + sp) x))) S := by
  have e52 := all52 (fu := fu) (n := n) (os := os) (ls := ls) (sp := sp) hS
  have e58 : ∀ y a b, pl y = true → callF Ir.P fu (n + 1) 58 [.d y, .d (.int a), .d (.int b)] S = .ok (.d (.bl (inR y a b))) S := fun y a b hy => int58 hS hy
  refine runD (fd := Ir.f59) rfl rfl rfl hS ?_
  generalize callF Ir.P fu (n + 1) = cf at *
  have hp := hx.p
  cases x <;> (first | (simp [pl] at hp; done) | simp [Ir.f59, startE, getV, tyOk0, tyIs, ordB])
  rename_i xs
  have h2 := hx.t _ rfl
  by_cases hl : xs.length ≤ 60
  · have hl' : ¬ (60 : Int) < xs.length := by omega
    have key := lcNm (C := ⟨cf, Ir.P, fu⟩) (i := 2) (e := .call 58 (.cons (.var 2) (.cons (.int 0) (.cons (.bin .sub (.call 52 (.cons (.var 0) .nil)) (.int 1)) .nil)))) (η := [some (.d (specQ os ls sp)), some (.d (.tup xs)), none]) (S := S) (fun y => .bl (inR y 0 (((os.length + sp : Nat) : Int) - 1))) (xs := xs) (ln100 h2.1) (by simp) (fun y hy => by simp only [Int.natCast_add] at e52; simp [getV, e52, e58 y _ _ (h2.2 y hy)])
    have hab := allB_map (fun y => inR y 0 (((os.length + sp : Nat) : Int) - 1)) xs
    simp only [Int.natCast_add] at hab
    simp [hl, hl', wipeE] at key ⊢
    rw [key]
    simp [hab]
  · have hl' : (60 : Int) < xs.length := by omega
    simp [hl, hl']
def sLet : D := .str [108, 101, 116]
def sOrd : D := .str [111, 114, 100, 101, 114]
def sMom : D := .str [109, 111, 109, 101, 110, 116]
def lenT : D → Nat
  | .tup xs => xs.length
  | _ => 0
def dueW (M : Nat) (x y : D) : D := if ordB M x = true then (if inR y 0 (lenT x : Nat) = true then sLet else sMom) else sOrd
theorem word60 {x y : D} {k : Int} (hk : k = 0 ∨ k = 1) (hS : belows S.length S = true) (hfu : 1000000 < fu) (h : Wo os) (hsp : sp ≤ 2) (hx : Og x) (hy : pl y = true) :
    callF Ir.P fu (n + 11) 60 [.d (.int k), .d (wishQ os ls sp), .d x, .d y] S = .ok (.d (dueW (os.length + sp) x y)) S := by
  have hm : os.length + sp ≤ 10 := by have := h.l5; omega
  have ea : ordB (os.length + sp) x = false → callF Ir.P fu (n + 10) 34 [.d (wishQ os ls sp), .d x, .d y] S = .exc 2 [] S ∧ callF Ir.P fu (n + 10) 35 [.d (wishQ os ls sp), .d x, .d y] S = .exc 2 [] S := fun hb =>
    ⟨stages34a (n := n + 5) hS hm hx hb, lack35x hS (stages34a (n := n + 4) hS hm hx hb)⟩
  have eb : ordB (os.length + sp) x = true → inR y 0 (lenT x : Nat) = false → callF Ir.P fu (n + 10) 34 [.d (wishQ os ls sp), .d x, .d y] S = .exc 3 [] S ∧ callF Ir.P fu (n + 10) 35 [.d (wishQ os ls sp), .d x, .d y] S = .exc 3 [] S := fun hb hi => by
    obtain ⟨o, rfl, ho, hc⟩ := ordB_ok hb
    have hlen : lenT (natsD o) = o.length := by simp [lenT, natsD, natL]
    rw [hlen] at hi
    exact ⟨stages34b (n := n + 5) hS hm ho hc hy hi, lack35x hS (stages34b (n := n + 4) hS hm ho hc hy hi)⟩
  have ec : ordB (os.length + sp) x = true → inR y 0 (lenT x : Nat) = true → ∃ u v, callF Ir.P fu (n + 10) 34 [.d (wishQ os ls sp), .d x, .d y] S = .ok (.d u) S ∧ callF Ir.P fu (n + 10) 35 [.d (wishQ os ls sp), .d x, .d y] S = .ok (.d v) S := fun hb hi => by
    obtain ⟨o, rfl, ho, hc⟩ := ordB_ok hb
    have hlen : lenT (natsD o) = o.length := by simp [lenT, natsD, natL]
    rw [hlen] at hi
    obtain ⟨t, rfl, ht⟩ : ∃ t : Nat, y = .int t ∧ t ≤ o.length := by
      cases y <;> (first | (simp [inR] at hi; done) | skip)
      rename_i i
      simp [inR] at hi
      exact ⟨i.toNat, by congr 1; omega, by omega⟩
    exact ⟨_, _, stages34 (n := n + 5) hS hm ho hc ht, lack35 (n := n) hS hfu h hsp ho hc ht⟩
  rw [runT (fd := Ir.f60) rfl rfl]
  generalize hC : (Ctx.mk (callF Ir.P fu (n + 10)) Ir.P fu) = C at *
  have hcall : C.call = callF Ir.P fu (n + 10) := by rw [← hC]
  rw [← hcall] at ea eb ec
  have hCP : C.P = Ir.P := by rw [← hC]
  have c2 : excC C.P 2 = true := by rw [hCP]; rfl
  have c3 : excC C.P 3 = true := by rw [hCP]; rfl
  have t2 : tyIs C.P (.cls 2) (.cls 0) = true := by rw [hCP]; rfl
  have t3 : tyIs C.P (.cls 3) (.cls 0) = true := by rw [hCP]; rfl
  have t22 : tyIs C.P (.cls 2) (.cls 2) = true := by rw [hCP]; rfl
  have t23 : tyIs C.P (.cls 2) (.cls 3) = false := by rw [hCP]; rfl
  have t32 : tyIs C.P (.cls 3) (.cls 2) = false := by rw [hCP]; rfl
  have t33 : tyIs C.P (.cls 3) (.cls 3) = true := by rw [hCP]; rfl
  have q1 : ∀ xs S, recvOk .count (.d (.lst xs)) S = true := fun _ _ => rfl
  have q1' : ∀ xs S, recvOk .index (.d (.lst xs)) S = true := fun _ _ => rfl
  have q4 : cmpD .eq (.d (.int 1)) (.d (.int 1)) S = some true := rfl
  cases hp : ordB (os.length + sp) x with
  | false =>
    obtain ⟨e1, e2⟩ := ea hp
    have hw : dueW (os.length + sp) x y = sOrd := by simp [dueW, hp]
    rw [hw]
    have q2 : bmD .count (.d (.lst [.bl true, .bl false])) [.d (.bl true)] S = .ok (.d (.int 1)) S := rfl
    have q3 : bmD .index (.d (.lst [.bl true, .bl false])) [.d (.bl true)] S = .ok (.d (.int 0)) S := rfl
    rcases hk with rfl | rfl <;> simp [Ir.f60, startE, getV, x_try, x_one, x_ifb, e1, e2, c2, t2, t22, t23, noExc, noExn, finish, close, freeze, hS, sOrd, q1, q1', q2, q3, q4]
  | true =>
    cases hr : inR y 0 (lenT x : Nat) with
    | false =>
      obtain ⟨e1, e2⟩ := eb hp hr
      have hw : dueW (os.length + sp) x y = sMom := by simp [dueW, hp, hr]
      rw [hw]
      have q2 : bmD .count (.d (.lst [.bl false, .bl true])) [.d (.bl true)] S = .ok (.d (.int 1)) S := rfl
      have q3 : bmD .index (.d (.lst [.bl false, .bl true])) [.d (.bl true)] S = .ok (.d (.int 1)) S := rfl
      rcases hk with rfl | rfl <;> simp [Ir.f60, startE, getV, x_try, x_one, x_ifb, e1, e2, c3, t3, t32, t33, noExc, noExn, finish, close, freeze, hS, sMom, q1, q1', q2, q3, q4]
    | true =>
      obtain ⟨u, v, e1, e2⟩ := ec hp hr
      have hw : dueW (os.length + sp) x y = sLet := by simp [dueW, hp, hr]
      rw [hw]
      rcases hk with rfl | rfl <;> simp [Ir.f60, startE, getV, x_try, x_one, x_ifb, e1, e2, noExc, noExn, finish, close, freeze, hS, sLet]
end
end K07
/-! SR: drawn wishes as data; texts; what is refused. -/
namespace K07
open RI EU LinQ QP
open PySem (PyData)
section
variable {fu n N M m : Nat} {S : Store} {p : Po} {T : Store} {os : List (Option (List Rat))} {ls : List Int} {sp : Nat} {cf : Nat → List W → Store → Res W}
theorem GN.q {x : D} (h : GN x) : ∃ q, x = ratD q ∧ Bd 1 101 q := by
  obtain ⟨q, rfl⟩ := rat_numB h.n
  obtain ⟨a, b, e, hb, ha⟩ := h.d
  simp only [ratD] at e
  have h1 : a = q.num ∧ b = q.den := by
    injection e with e
    simp at e
    exact ⟨e.1.symm, e.2.symm⟩
  obtain ⟨rfl, rfl⟩ := h1
  have hd : q.den ∣ 42 := by
    have := Int.natCast_dvd_natCast.mp (show ((q.den : Nat) : Int) ∣ ((42 : Nat) : Int) from hb)
    exact this
  obtain ⟨e, he⟩ := hd
  refine ⟨q, rfl, q.num * e, ?_, ?_⟩
  · rw [Nat.pow_one, he]
    have h0 : e ≠ 0 := by
      intro z
      rw [z] at he
      simp at he
    rw [Nat.mul_comm q.den e]
    have := Rat.mkRat_mul_right (n := q.num) (d := q.den) h0
    rw [Nat.mul_comm e q.den, this, Rat.mkRat_self]
  · rw [Int.natAbs_mul, Int.natAbs_natCast, Nat.pow_one]
    have : e ≤ 42 := Nat.le_of_dvd (by decide) ⟨q.den, by rw [he, Nat.mul_comm]⟩
    exact Nat.mul_le_mul ha this
def RQ (x : D) : Prop := ∃ q, x = ratD q ∧ Bd 1 101 q
theorem rats_ex : ∀ {xs : List D}, (∀ y ∈ xs, RQ y) → ∃ r : List Rat, xs = r.map ratD ∧ ∀ q ∈ r, Bd 1 101 q
  | [], _ => ⟨[], rfl, by simp⟩
  | x :: xs, h => by
    obtain ⟨q, rfl, hq⟩ := h x (by simp)
    obtain ⟨r, rfl, hr⟩ := rats_ex (xs := xs) fun y hy => h y (by simp [hy])
    refine ⟨q :: r, rfl, fun p hp => ?_⟩
    rcases List.mem_cons.mp hp with rfl | hp
    · exact hq
    · exact hr p hp
theorem RowG.q {m : Nat} {x : D} (h : RowG m x) : ∃ r, x = rowQ r ∧ r.length = m ∧ ∀ q ∈ r, Bd 1 101 q := by
  obtain ⟨xs, rfl, h1, h2⟩ := h
  obtain ⟨r, rfl, hr⟩ := rats_ex fun y hy => (h2 y hy).q
  exact ⟨r, rfl, by simpa using h1, hr⟩
theorem ROpt.q {m : Nat} {x : D} (h : ROpt m x) : ∃ o, x = optD o ∧ ∀ r, o = some r → r.length = m ∧ ∀ q ∈ r, Bd 1 101 q := by
  rcases h with rfl | h
  · exact ⟨none, rfl, by simp⟩
  · obtain ⟨r, rfl, h1, h2⟩ := h.q
    exact ⟨some r, rfl, by rintro _ ⟨⟩; exact ⟨h1, h2⟩⟩
theorem ROpt.qs {m : Nat} : ∀ {xs : List D}, (∀ y ∈ xs, ROpt m y) → ∃ os : List (Option (List Rat)), xs = os.map optD ∧ ∀ r, some r ∈ os → r.length = m ∧ ∀ q ∈ r, Bd 1 101 q
  | [], _ => ⟨[], rfl, by simp⟩
  | x :: xs, h => by
    obtain ⟨o, rfl, ho⟩ := (h x (by simp)).q
    obtain ⟨os, rfl, hos⟩ := ROpt.qs (xs := xs) fun y hy => h y (by simp [hy])
    refine ⟨o :: os, rfl, fun p hp => ?_⟩
    rcases List.mem_cons.mp hp with hp | hp
    · exact ho p hp.symm
    · exact hos p hp
/-- a drawn wish -/
structure Wq (os : List (Option (List Rat))) (ls : List Int) (sp : Nat) : Prop where
  o : Wo os
  s : sp ≤ 2
  g : Good (.tup (os.map optD)) (lockD ls) (.int sp)
  w : Wg (.tup (os.map optD))
  l : Lg (lockD ls)
theorem SpecM.q {x : D} (h : SpecM 5 x) : ∃ os ls sp, x = specQ os ls sp ∧ Wq os ls sp := by
  obtain ⟨⟨rs, ls, j, rfl, h1, h2, h3, h4, h5, j0, j2⟩, rs', l', j', e, hmo⟩ := h
  cases e
  obtain ⟨sp, rfl⟩ : ∃ k : Nat, j = k := ⟨j.toNat, by omega⟩
  have hg : Good (.tup rs) (lockD ls) (.int sp) := by
    refine ⟨⟨rs, rfl, h1, h2, fun x hx => ?_, ?_⟩, by simp [inR, j0, j2]⟩
    · rcases h3 x hx with rfl | h
      · rfl
      · have e := h.ok
        obtain ⟨xs, rfl, _⟩ := h
        exact e
    · simp only [lotB, lockD, inc_incZ, h4, Bool.and_true]
      rw [List.all_eq_true]
      intro y hy
      obtain ⟨i, hi, rfl⟩ := List.mem_map.mp hy
      have := h5 i hi
      simp [inR]
      omega
  have hw : Wg (.tup rs) := ⟨rfl, fun xs e y hy => by
    cases e
    rcases h3 y hy with rfl | h
    · exact ⟨rfl, fun xs e => by cases e⟩
    · exact h.rg (by omega)⟩
  have hl : Lg (lockD ls) := by
    have hlen : ∀ (ls : List Int) (lo : Int), incZ ls = true → (∀ l ∈ ls, lo ≤ l ∧ l < rs.length) → lo ≤ rs.length → (ls.length : Int) ≤ rs.length - lo := by
      intro ls
      induction ls with
      | nil => intro lo _ _ h; simp; omega
      | cons a r ih =>
        intro lo h hb hlh
        have ha := hb a (by simp)
        have ht : incZ r = true := by
          cases r with
          | nil => rfl
          | cons b r => simp [incZ] at h ⊢; exact h.2
        have hgt : ∀ (r : List Int) (a : Int), incZ (a :: r) = true → ∀ l ∈ r, a < l := by
          intro r
          induction r with
          | nil => intro a _ l hl; simp at hl
          | cons b r ih =>
            intro a h l hl
            have h1 : a < b := by simp [incZ] at h; exact h.1
            have h2 : incZ (b :: r) = true := by simp [incZ] at h ⊢; exact h.2
            rcases List.mem_cons.mp hl with rfl | hl
            · exact h1
            · have := ih b h2 l hl
              omega
        have := ih (a + 1) ht (fun l hl => by
          have h1 := hgt r a h l hl
          have h2 := hb l (by simp [hl])
          omega) (by omega)
        simp
        omega
    have := hlen ls 0 h4 h5 (by omega)
    refine ⟨rfl, fun xs e => ?_⟩
    cases e
    refine ⟨by simp; omega, fun y hy => ?_⟩
    obtain ⟨i, _, rfl⟩ := List.mem_map.mp hy
    rfl
  obtain ⟨os, rfl, hos⟩ := ROpt.qs h3
  simp only [List.length_map] at *
  exact ⟨os, ls, sp, rfl, ⟨h1, by omega, hos⟩, by omega, hg, hw, hl⟩
theorem made51 (h : Wq os ls sp) (hS : belows S.length S = true) (hfu : 1000000 < fu) :
    callF Ir.P fu (n + 5) 51 [.d (specQ os ls sp)] S = .ok (.d (wishQ os ls sp)) S := by
  refine runD (fd := Ir.f51) rfl rfl rfl hS ?_
  have hm := mk_wish (C := ⟨callF Ir.P fu (n + 4), Ir.P, fu⟩) rfl hS (F9 (n := n) hS hfu h.w h.l (spare := .int sp) rfl)
  rw [due_good.mpr h.g] at hm
  simp only at hm
  generalize callF Ir.P fu (n + 4) = cf at *
  simp [Ir.f51, startE, getV, specQ, hm, wishQ]
theorem is40 {x : D} {s : List Nat} (hS : belows S.length S = true) (h : reprD (.d x) = some (.str s)) : callF Ir.P fu (n + 1) 40 [.d x, .d x] S = .ok (.d (.bl true)) S := by
  refine runD (fd := Ir.f40) rfl rfl rfl hS ?_
  generalize callF Ir.P fu n = cf
  simp [Ir.f40, startE, getV, h]
/-! ### texts -/
theorem rep_okB {x : D} {p : PyData} {B : Nat} (e : toPD x = some p) (hc : PyData.canLay0 p = true) (hd : PyData.depth p ≤ 64) (hB : 8 ≤ B) (hs : PyData.showable p = true) (hi : p.intsShort B = true) (hw : (B + 2) * PyData.weight p + B ≤ line) : ∃ s, reprD (.d x) = some (.str s) := by
  have h2 := PyData.shown_le B hB p (PyData.leavesShort_of_canLay0 B p hc hi)
  have h3 := PyData.hasDict_of_canLay p hc
  refine ⟨p.shown.cps.toList, ?_⟩
  simp only [reprD, e, Option.bind_some]
  rw [if_pos ⟨hs, h3, hd, Nat.le_trans h2 hw⟩]
structure Txt (w : Nat) (p : PyData) : Prop where
  s : PyData.showable p = true
  i : p.intsShort 92 = true
  w : PyData.weight p ≤ w
theorem txt_int {i : Int} (h : i.natAbs.log2 < 300) : Txt 301 (.int i) := by
  refine ⟨by simp [PyData.showable]; omega, ?_, ?_⟩
  · have hb : i.natAbs < 10 ^ 91 := by
      have h1 : i.natAbs < 2 ^ (i.natAbs.log2 + 1) := Nat.lt_log2_self
      exact Nat.lt_trans (Nat.lt_of_lt_of_le h1 (Nat.pow_le_pow_right (by decide) h)) (by decide +kernel)
    have := PySem.int_text_length_le10 (k := 91) (by decide) hb
    simp only [PyData.intsShort, decide_eq_true_eq]
    show (PySem.Str.ofString (toString i)).length ≤ 92
    rw [PySem.ofString_length]
    exact this
  · simp only [PyData.weight]
    split <;> omega
theorem txt_list {w : Nat} : ∀ {ps : List PyData}, (∀ p ∈ ps, Txt w p) → PyData.showableAll ps = true ∧ PyData.intsShortAll 92 ps = true ∧ PyData.weightAll ps ≤ ps.length * (w + 1)
  | [], _ => ⟨rfl, rfl, by simp [PyData.weightAll]⟩
  | p :: ps, h => by
    have h0 := h p (by simp)
    obtain ⟨h1, h2, h3⟩ := txt_list (ps := ps) fun q hq => h q (by simp [hq])
    refine ⟨by simp [PyData.showableAll, h0.s, h1], by simp [PyData.intsShortAll, h0.i, h2], ?_⟩
    have := h0.w
    simp only [PyData.weightAll, List.length_cons, Nat.succ_mul]
    omega
theorem txt_tup {w n : Nat} {ps : List PyData} (h : ∀ p ∈ ps, Txt w p) (hl : ps.length ≤ n) : Txt (n * (w + 1)) (.tuple ps) := by
  obtain ⟨h1, h2, h3⟩ := txt_list h
  exact ⟨by simpa [PyData.showable] using h1, by simpa [PyData.intsShort] using h2, by simp only [PyData.weight]; exact Nat.le_trans h3 (Nat.mul_le_mul_right _ hl)⟩
def wordP : Nat → PyData
  | 0 => .str ⟨#[110, 111, 116, 32, 98, 101, 103, 117, 110]⟩
  | 1 => .str ⟨#[100, 111, 110, 101]⟩
  | _ => .str ⟨#[97, 109, 105, 100]⟩
theorem word_sh : ∀ w : Nat, w ≤ 2 → Sh 0 (wordD w) (wordP w) ∧ Txt 20 (wordP w)
  | 0, _ => ⟨⟨rfl, by decide +kernel, by simp [wordP, PyData.depth]⟩, rfl, rfl, by decide⟩
  | 1, _ => ⟨⟨rfl, by decide +kernel, by simp [wordP, PyData.depth]⟩, rfl, rfl, by decide⟩
  | 2, _ => ⟨⟨rfl, by decide +kernel, by simp [wordP, PyData.depth]⟩, rfl, rfl, by decide⟩
theorem toPDs_words : ∀ ws : List Nat, (∀ w ∈ ws, w ≤ 2) → toPDs (ws.map wordD) = some (ws.map wordP)
  | [], _ => rfl
  | w :: ws, h => by
    have ih := toPDs_words ws fun y hy => h y (by simp [hy])
    have e := (word_sh w (h w (by simp))).1.e
    simp [toPDs, e, ih]
theorem rep_words {ws : List Nat} (h : WsOk os ws) : ∃ s, reprD (.d (wordsD ws)) = some (.str s) := by
  have hp := toPDs_words ws h.w
  have t : Txt (10 * (20 + 1)) (.tuple (ws.map wordP)) := txt_tup (w := 20) (n := 10) (fun p hp => by
    obtain ⟨w, hw, rfl⟩ := List.mem_map.mp hp
    exact (word_sh w (h.w w hw)).2) (by simpa using h.l9)
  obtain ⟨p, hsh⟩ := Sh.tup (d := 0) (xs := ws.map wordD) fun x hx => by
    obtain ⟨w, hw, rfl⟩ := List.mem_map.mp hx
    exact ⟨_, (word_sh w (h.w w hw)).1⟩
  have e : toPD (wordsD ws) = some (.tuple (ws.map wordP)) := by simp [wordsD, toPD, hp]
  have e2 : p = .tuple (ws.map wordP) := by
    have := hsh.e
    rw [show D.tup (ws.map wordD) = wordsD ws from rfl, e] at this
    exact (Option.some.inj this).symm
  subst e2
  refine rep_okB (B := 92) e hsh.l (by have := hsh.d; omega) (by decide) t.s t.i ?_
  have := t.w
  unfold line
  omega
theorem rk_le : ∀ (vs seen : List V), rk seen vs ≤ vs.length
  | [], _ => by simp [rk]
  | v :: vs, seen => by
    have := rk_le vs (seen ++ [v])
    rw [rk, List.length_cons]
    split <;> omega
theorem rep_lack {ws : List Nat} (ho : Wo os) (h : WsOk os ws) : ∃ s, reprD (.d (lackD os ws)) = some (.str s) := by
  have h1 : lackN os ws ≤ 5 := by
    have := rk_le ((wishR os).map vec) ((safeR os ws).map vec)
    have h2 := wish_len ho
    rw [List.length_map] at this
    unfold lackN
    omega
  have h2 : amidN ws ≤ 10 := Nat.le_trans (List.length_filter_le _ _) h.l9
  have l1 : ∀ k : Nat, k ≤ 10 → ((k : Int)).natAbs.log2 < 300 := fun k hk => by
    rw [Int.natAbs_natCast]
    exact Nat.lt_of_lt_of_le (log_sml (by omega)) (by decide)
  have t : Txt (2 * (301 + 1)) (.tuple [.int (lackN os ws : Nat), .int (amidN ws : Nat)]) := txt_tup (w := 301) (n := 2) (fun p hp => by
    simp at hp
    rcases hp with rfl | rfl
    · exact txt_int (l1 _ (by omega))
    · exact txt_int (l1 _ h2)) (by simp)
  refine rep_okB (B := 92) (x := lackD os ws) (p := .tuple [.int (lackN os ws : Nat), .int (amidN ws : Nat)]) rfl (by simp [PyData.canLay0, PyData.canLayAll0]) (by simp [PyData.depth, PyData.depthAll]) (by decide) t.s t.i ?_
  have := t.w
  unfold line
  omega
end
end K07
/-! SS: what is refused, by both. -/
namespace K07
open RI EU LinQ QP
theorem strs_self {s : List Nat} {S : Store} (h : s.all (fun c => decide (c < 1000)) = true) : eqD (.d (.lst [.str s, .str s])) (.d (.lst [.str s, .str s])) S = some true := by
  have hs : PySem.PyData.strOk ⟨s.toArray⟩ = true := by
    simp [PySem.PyData.strOk]
    intro c hc
    have := List.all_eq_true.mp h c hc
    simp at this
    omega
  have : pyEq (.lst [.str s, .str s]) (.lst [.str s, .str s]) = some true := by
    refine pyEq_self (p := .list [.str ⟨s.toArray⟩, .str ⟨s.toArray⟩]) rfl ?_
    simp [PySem.SeqAt.shaped, PySem.PyData.canLay0, PySem.PyData.canLayAll0, hs, PySem.PyData.depth, PySem.PyData.depthAll]
  exact this
theorem eq_due {C : Ctx} {S : Store} {M : Nat} {x y : D} : cmpW C .eq (.d (.lst [dueW M x y, dueW M x y])) (.d (.lst [dueW M x y, dueW M x y])) S = .ok (.d (.bl true)) S := by
  have hd : ∃ s : List Nat, dueW M x y = .str s ∧ s.all (fun c => decide (c < 1000)) = true := by
    unfold dueW
    split
    · split
      · exact ⟨_, rfl, by decide⟩
      · exact ⟨_, rfl, by decide⟩
    · exact ⟨_, rfl, by decide⟩
  obtain ⟨s, e, hs⟩ := hd
  rw [e]
  have h : eqD (.d (.lst [.str s, .str s])) (.d (.lst [.str s, .str s])) S = some true := strs_self hs
  unfold cmpW
  simp only [eqOwnE_lst, cmpD, h, ofO_some, Res.bind_ok, bnd_ok]
section
variable {fu n N M m : Nat} {S : Store} {p : Po} {T : Store} {os : List (Option (List Rat))} {ls : List Int} {sp : Nat} {cf : Nat → List W → Store → Res W}
def DeepT (cf : Nat → List W → Store → Res W) : Prop := ∀ {S : Store}, belows S.length S = true → ∃ xs, cf 39 [] S = .ok (.d (.lst xs)) S
theorem Tot_ix {α : Type} {xs : List D} {r : Int} {k : W → Store → Res α} {Q : α → Store → Prop} (h0 : 0 ≤ r) (h1 : r < xs.length) (hk : ∀ x ∈ xs, Tot (k (.d x) S) Q) : Tot ((ofO (ixD (.d (.lst xs)) (.d (.int r)) S) S).bnd k) Q := by
  obtain ⟨x, hx, e⟩ := ix_in h0 h1
  rw [ix_lst, e]
  exact hk x hx
theorem og_flat {x : D} (h : pl x = true) (h2 : isT x = false) : Og x := ⟨h, fun ys e => by subst e; simp [isT] at h2⟩
theorem og_tup {xs : List D} (h : xs.length ≤ 1000) (h2 : ∀ y ∈ xs, pl y = true) : Og (.tup xs) := ⟨rfl, fun ys e => by cases e; exact ⟨h, h2⟩⟩
theorem pl_natL {o : List Nat} : ∀ y ∈ natL o, pl y = true := fun y hy => by
  obtain ⟨c, _, rfl⟩ := List.mem_map.mp hy
  rfl
/-- what the refusals call -/
structure Rf (cf : Nat → List W → Store → Res W) : Prop where
  d : DrawT cf
  d39 : DeepT cf
  a52 : ∀ {os : List (Option (List Rat))} {ls : List Int} {sp : Nat} {S : Store}, belows S.length S = true → cf 52 [.d (specQ os ls sp)] S = .ok (.d (.int ((os.length + sp : Nat) : Int))) S
  o59 : ∀ {os : List (Option (List Rat))} {ls : List Int} {sp : Nat} {S : Store} {x : D}, belows S.length S = true → os.length + sp ≤ 10 → Og x → cf 59 [.d (specQ os ls sp), .d x] S = .ok (.d (.bl (ordB (os.length + sp) x))) S
  i58 : ∀ {S : Store} {x : D} {a b : Int}, belows S.length S = true → pl x = true → cf 58 [.d x, .d (.int a), .d (.int b)] S = .ok (.d (.bl (inR x a b))) S
  w60 : ∀ {os : List (Option (List Rat))} {ls : List Int} {sp : Nat} {S : Store} {x y : D} {k : Int}, k = 0 ∨ k = 1 → belows S.length S = true → Wo os → sp ≤ 2 → Og x → pl y = true → cf 60 [.d (.int k), .d (wishQ os ls sp), .d x, .d y] S = .ok (.d (dueW (os.length + sp) x y)) S
theorem rf_ok (hfu : 1000000 < fu) : Rf (callF Ir.P fu (n + 11)) := ⟨F12, fun hS => F14 hS, fun hS => all52 hS, fun hS hm hx => order59 hS hm hx, fun hS hx => int58 hS hx, fun hk hS h hsp hx hy => word60 hk hS hfu h hsp hx hy⟩
abbrev e61 (s w o : D) (w4 w5 w6 w7 w8 : Option W) : Env := [some (.loc 1), some (.d s), some (.d w), some (.d o), w4, w5, w6, w7, w8, none]
theorem ref61 (c : Rf cf) {o : List Nat} (h : p.Ok N) (hN : N + 500 < 1000000) (hw : Wq os ls sp) (ho : OkO (os.length + sp) 60 o) (hT : ∀ k, belows k T = true) :
    Tot (execSs ⟨cf, Ir.P, fu⟩ Ir.f61.body (startE Ir.f61.N.length [.loc 1, .d (specQ os ls sp), .d (wishQ os ls sp), .d (natsD o)]) (p.st ++ T)) (fun f S => ∃ p', f = .ret (.d (.bl true)) ∧ S = Po.st p' ++ T ∧ p'.Ok (N + 10)) := by
  have hB : ∀ p : Po, belows (p.st ++ T).length (p.st ++ T) = true := fun p => bl_st hT
  have hl5 := hw.o.l5
  have hsp := hw.s
  have hol := ho.1
  have ol : (natL o).length ≤ 60 := by rw [natL_len]; exact hol
  have e52 := c.a52 (os := os) (ls := ls) (sp := sp) (hB p)
  obtain ⟨dp, e39⟩ := c.d39 (hB p)
  have ad : ∀ (S : Store) (y : D), binD .add (.d (natsD o)) (.d (.tup [y])) S = some (.tup (natL o ++ [y])) := fun S y => by
    have : (natL o).length + 1 ≤ line := by unfold line; omega
    simp [natsD, binD, addD, this]
  have bl : ∀ S : Store, biD .list [.d (natsD o)] S = some (.lst (natL o)) := fun S => rfl
  have bn : ∀ S : Store, biD .len [.d (natsD o)] S = some (.int (o.length : Nat)) := fun S => by simp [natsD, biD, seqOf, natL_len]
  have hm60 : ∀ S : Store, binD .mul (.d (.tup [.int 0])) (.d (.int 60)) S = some (.tup (rep 60 [.int 0])) := fun S => id rfl
  have hm61 : ∀ S : Store, binD .mul (.d (.tup [.int 0])) (.d (.int 61)) S = some (.tup (rep 61 [.int 0])) := fun S => id rfl
  have hp29 : ∀ S : Store, binD .pow (.d (.int 10)) (.d (.int 29)) S = some (.int (10 ^ 29)) := fun S => id rfl
  have hrep : ∀ k : Int, k ≤ 100 → Og (.tup (rep k [.int 0])) := fun k hk => og_tup (by simp [rep]; omega) fun y hy => by
    simp [rep] at hy
    rw [hy.2]
    rfl
  have r60 := hrep 60 (by omega)
  have r61 := hrep 61 (by omega)
  generalize rep 60 [D.int 0] = R60 at *
  generalize rep 61 [D.int 0] = R61 at *
  simp only [Ir.f61, startE]
  refine Tot.se (C := ⟨cf, Ir.P, fu⟩) (η' := e61 (specQ os ls sp) (wishQ os ls sp) (natsD o) (some (.d (.int ((os.length + sp : Nat) : Int)))) none none none none) (by simp only [Int.natCast_add] at e52; simp [getV, e52]) ?_
  refine Tot.st (C := ⟨cf, Ir.P, fu⟩) (fun η' S' => ∃ odds : List D, η' = e61 (specQ os ls sp) (wishQ os ls sp) (natsD o) (some (.d (.int ((os.length + sp : Nat) : Int)))) (some (.d (.lst odds))) none none none ∧ S' = Po.st p ++ T ∧ odds.length = 12 ∧ ∀ x ∈ odds, Og x) ?_ ?_
  · simp [-bn_addt, -bn_mult, getV, ad, bl, hm60, hm61, e39]
    refine TQ.mk ⟨_, rfl, rfl, rfl, ?_⟩
    have happ : ∀ y, pl y = true → Og (.tup (natL o ++ [y])) := fun y hy => og_tup (by simp; omega) fun z hz => by
      rcases List.mem_append.mp hz with hz | hz
      · exact pl_natL z hz
      · simp at hz; subst hz; exact hy
    intro x hx
    simp at hx
    rcases hx with rfl | rfl | rfl | rfl | rfl | rfl | rfl | rfl | rfl | rfl | rfl | rfl
    · exact og_tup (by omega) pl_natL
    · exact happ _ rfl
    · exact happ _ rfl
    · exact happ _ rfl
    · exact og_flat rfl rfl
    · exact og_flat rfl rfl
    · exact r60
    · exact r61
    · exact og_flat rfl rfl
    · exact og_flat rfl rfl
    · exact og_flat rfl rfl
    · exact og_tup (by simp) (by simp; rfl)
  rintro _ _ ⟨odds, rfl, rfl, h12, hodd⟩
  refine Tot.st (C := ⟨cf, Ir.P, fu⟩) (fun η' S' => ∃ (x : D) (p' : Po), η' = e61 (specQ os ls sp) (wishQ os ls sp) (natsD o) (some (.d (.int ((os.length + sp : Nat) : Int)))) (some (.d (.lst odds))) (some (.d x)) none none ∧ S' = Po.st p' ++ T ∧ Og x ∧ p'.Ok (N + 1)) ?_ ?_
  · simp [-ix_lst, getV]
    refine Tot.seq (c.d h (by omega) (by decide) (by decide) hT) ?_
    rintro _ _ ⟨a, p2, rfl, rfl, a0, a1, k2⟩
    try simp [-ix_lst]
    refine Tot_ix a0 (by rw [h12]; exact a1) ?_
    intro x hx
    simp
    exact TQ.mk ⟨x, p2, rfl, rfl, hodd x hx, k2⟩
  rintro _ _ ⟨x, p2, rfl, rfl, hx, k2⟩
  obtain ⟨dp2, e39b⟩ := c.d39 (hB p2)
  refine Tot.st (C := ⟨cf, Ir.P, fu⟩) (fun η' S' => ∃ (y : D) (p' : Po), η' = e61 (specQ os ls sp) (wishQ os ls sp) (natsD o) (some (.d (.int ((os.length + sp : Nat) : Int)))) (some (.d (.lst odds))) (some (.d x)) (some (.d y)) none ∧ S' = Po.st p' ++ T ∧ pl y = true ∧ p'.Ok (N + 2)) ?_ ?_
  · simp [-ix_lst, getV, bn, hp29, e39b]
    refine Tot.seq (c.d k2 (by omega) (by decide) (by decide) hT) ?_
    rintro _ _ ⟨a, p3, rfl, rfl, a0, a1, k3⟩
    try simp [-ix_lst]
    refine Tot_ix a0 (by simpa using a1) ?_
    intro y hy
    simp
    refine TQ.mk ⟨y, p3, rfl, rfl, ?_, k3⟩
    simp at hy
    rcases hy with rfl | rfl | rfl | rfl | rfl | rfl | rfl | rfl | rfl | rfl | rfl | rfl <;> rfl
  rintro _ _ ⟨y, p3, rfl, rfl, hy, k3⟩
  have e59 := c.o59 (os := os) (ls := ls) (sp := sp) (hB p3) (by omega) hx
  refine Tot.se (C := ⟨cf, Ir.P, fu⟩) (η' := e61 (specQ os ls sp) (wishQ os ls sp) (natsD o) (some (.d (.int ((os.length + sp : Nat) : Int)))) (some (.d (.lst odds))) (some (.d x)) (some (.d y)) (some (.d sOrd))) (by simp [getV, sOrd]) ?_
  refine Tot.se (C := ⟨cf, Ir.P, fu⟩) (η' := e61 (specQ os ls sp) (wishQ os ls sp) (natsD o) (some (.d (.int ((os.length + sp : Nat) : Int)))) (some (.d (.lst odds))) (some (.d x)) (some (.d y)) (some (.d (dueW (os.length + sp) x y)))) ?_ ?_
  · cases hb : ordB (os.length + sp) x with
    | false =>
      rw [hb] at e59
      have hd : dueW (os.length + sp) x y = sOrd := by simp [dueW, hb]
      rw [hd]
      simp [getV, e59]
    | true =>
      rw [hb] at e59
      obtain ⟨o2, rfl, ho2, hc2⟩ := ordB_ok hb
      have hlen : lenT (natsD o2) = o2.length := by simp [lenT, natsD, natL]
      have bn2 : ∀ S : Store, biD .len [.d (natsD o2)] S = some (.int (o2.length : Nat)) := fun S => by simp [natsD, biD, seqOf, natL_len]
      have e58 := c.i58 (a := 0) (b := (o2.length : Nat)) (hB p3) hy
      cases hi : inR y 0 (o2.length : Nat) with
      | true =>
        rw [hi] at e58
        have hd : dueW (os.length + sp) (natsD o2) y = sLet := by simp [dueW, hb, hlen, hi]
        rw [hd]
        simp [getV, e59, bn2, e58, sLet]
      | false =>
        rw [hi] at e58
        have hd : dueW (os.length + sp) (natsD o2) y = sMom := by simp [dueW, hb, hlen, hi]
        rw [hd]
        simp [getV, e59, bn2, e58, sMom]
  have w0 := c.w60 (ls := ls) (k := 0) (.inl rfl) (hB p3) hw.o hsp hx hy
  have w1 := c.w60 (ls := ls) (k := 1) (.inr rfl) (hB p3) hw.o hsp hx hy
  have key := lcMap (C := ⟨cf, Ir.P, fu⟩) (i := 9) (e := .call 60 (.cons (.var 9) (.cons (.var 2) (.cons (.var 6) (.cons (.var 7) .nil))))) (η := e61 (specQ os ls sp) (wishQ os ls sp) (natsD o) (some (.d (.int ((os.length + sp : Nat) : Int)))) (some (.d (.lst odds))) (some (.d x)) (some (.d y)) (some (.d (dueW (os.length + sp) x y)))) (S := p3.st ++ T) (fun i : Nat => .int i) (fun _ => dueW (os.length + sp) x y) (zs := List.range 2) (ln100 (by simp)) (by simp) (fun i hi => by
    have hi := List.mem_range.mp hi
    rcases (show i = 0 ∨ i = 1 by omega) with rfl | rfl
    · simp [getV, w0]
    · simp [getV, w1])
  have eqd := eq_due (C := ⟨cf, Ir.P, fu⟩) (S := p3.st ++ T) (M := os.length + sp) (x := x) (y := y)
  have rl : (-lineR ≤ (2 : Int)) ∧ (2 : Int) < lineR := by unfold lineR; omega
  generalize dueW (os.length + sp) x y = dw at *
  have hrep2 : (List.range 2).map (fun _ => dw) = [dw, dw] := rfl
  rw [hrep2] at key
  simp [-List.map_map, getV, rl, wipeE, lcSrc] at key ⊢
  rw [key]
  simp [getV, eqd]
  exact ⟨p3, rfl, k3.up (by omega)⟩
def RefT (cf : Nat → List W → Store → Res W) : Prop := ∀ {N : Nat} {p : Po} {T : Store} {os : List (Option (List Rat))} {ls : List Int} {sp : Nat} {o : List Nat}, p.Ok N → N + 500 < 1000000 → Wq os ls sp → OkO (os.length + sp) 60 o → (∀ k, belows k T = true) → Tot (cf 61 [.loc 1, .d (specQ os ls sp), .d (wishQ os ls sp), .d (natsD o)] (p.st ++ T)) (GenT (fun x => x = .bl true) 10 N T)
theorem refT (hfu : 1000000 < fu) : RefT (callF Ir.P fu (n + 12)) := by
  intro N p T os ls sp o h hN hw ho hT
  have B := ref61 (fu := fu) (rf_ok (n := n) hfu) h hN hw ho hT
  rw [runT (fd := Ir.f61) rfl rfl]
  generalize callF Ir.P fu (n + 11) = cf at *
  refine Tot.fin ?_
  have hl2 : (p.st ++ T).length = 2 + T.length := by simp [Po.st]; omega
  rw [hl2]
  refine B.mono ?_
  rintro f S ⟨p', rfl, rfl, k'⟩
  exact fin_q0 (Q := GenT (fun x => x = .bl true) 10 N T) hT ⟨_, p', rfl, rfl, rfl, k'⟩
end
end K07
/-! ST: the law. -/
namespace K07
open RI EU LinQ QP
section
variable {fu n N M m : Nat} {S : Store} {p : Po} {T : Store} {os : List (Option (List Rat))} {ls : List Int} {sp : Nat} {cf : Nat → List W → Store → Res W}
structure Calls (cf : Nat → List W → Store → Res W) : Prop where
  d : DrawT cf
  w50 : WishT cf
  o57 : OrdT cf
  r61 : RefT cf
  a52 : ∀ {os : List (Option (List Rat))} {ls : List Int} {sp : Nat} {S : Store}, belows S.length S = true → cf 52 [.d (specQ os ls sp)] S = .ok (.d (.int ((os.length + sp : Nat) : Int))) S
  m51 : ∀ {os : List (Option (List Rat))} {ls : List Int} {sp : Nat} {S : Store}, Wq os ls sp → belows S.length S = true → cf 51 [.d (specQ os ls sp)] S = .ok (.d (wishQ os ls sp)) S
  s53 : ∀ {os : List (Option (List Rat))} {ls : List Int} {sp t : Nat} {S : Store} {o : List Nat}, belows S.length S = true → os.length + sp ≤ 10 → cf 53 [.d (specQ os ls sp), .d (natsD o), .d (.int (t : Nat))] S = .ok (.d (wordsD (words os sp o t))) S
  s34 : ∀ {os : List (Option (List Rat))} {ls : List Int} {sp t : Nat} {S : Store} {o : List Nat}, belows S.length S = true → os.length + sp ≤ 10 → OkO (os.length + sp) 60 o → t ≤ o.length → cf 34 [.d (wishQ os ls sp), .d (natsD o), .d (.int (t : Nat))] S = .ok (.d (wordsD (words os sp o t))) S
  l35 : ∀ {os : List (Option (List Rat))} {ls : List Int} {sp t : Nat} {S : Store} {o : List Nat}, belows S.length S = true → Wq os ls sp → OkO (os.length + sp) 60 o → t ≤ o.length → cf 35 [.d (wishQ os ls sp), .d (natsD o), .d (.int (t : Nat))] S = .ok (.d (lackD os (words os sp o t))) S
  l56 : ∀ {os : List (Option (List Rat))} {ls : List Int} {sp : Nat} {ws : List Nat} {S : Store}, belows S.length S = true → Wq os ls sp → WsOk os ws → cf 56 [.d (specQ os ls sp), .d (wordsD ws)] S = .ok (.d (lackD os ws)) S
  i40 : ∀ {x : D} {s : List Nat} {S : Store}, belows S.length S = true → reprD (.d x) = some (.str s) → cf 40 [.d x, .d x] S = .ok (.d (.bl true)) S
theorem calls (hfu : 1000000 < fu) : Calls (callF Ir.P fu (n + 12)) where
  d := F12
  w50 := F20'
  o57 := order57
  r61 := refT hfu
  a52 := fun hS => all52 hS
  m51 := fun h hS => made51 h hS hfu
  s53 := fun hS hm => stages53 hS hm
  s34 := fun hS hm ho ht => stages34 hS hm ho.1 ho.2 ht
  l35 := fun hS h ho ht => lack35 hS hfu h.o h.s ho.1 ho.2 ht
  l56 := fun hS h hw => lack56 hS hfu h.o hw
  i40 := fun hS h => is40 hS h
abbrev e62 (w0 w2 w3 w4 w5 w6 w7 w8 w9 : Option W) : Env := [w0, some (.loc 1), w2, w3, w4, w5, w6, w7, w8, w9]
/-- a moment -/
theorem moment (c : Calls cf) {w0 w2 w7 w8 w9 : Option W} {o : List Nat} {t : Nat} (hS : belows S.length S = true) (h : Wq os ls sp) (ho : OkO (os.length + sp) 60 o) (ht : t ≤ o.length) :
    execSs ⟨cf, Ir.P, fu⟩ Ir.f62b1 (e62 w0 w2 (some (.d (specQ os ls sp))) (some (.d (wishQ os ls sp))) (some (.d (natsD o))) (some (.d (.int (t : Nat)))) w7 w8 w9) S = .ok (.nx (e62 w0 w2 (some (.d (specQ os ls sp))) (some (.d (wishQ os ls sp))) (some (.d (natsD o))) (some (.d (.int (t : Nat)))) w7 (some (.d (wordsD (words os sp o t)))) w9)) S := by
  have hl5 := h.o.l5
  have hsp := h.s
  have hw := words_ok (o := o) (t := t) h.o hsp
  have e53 := c.s53 (ls := ls) (t := t) (o := o) hS (show os.length + sp ≤ 10 by omega)
  have e34 := c.s34 (ls := ls) hS (show os.length + sp ≤ 10 by omega) ho ht
  have e35 := c.l35 hS h ho ht
  have e56 := c.l56 hS h hw
  obtain ⟨s1, r1⟩ := rep_words hw
  obtain ⟨s2, r2⟩ := rep_lack h.o hw
  have i1 := c.i40 hS r1
  have i2 := c.i40 hS r2
  simp [getV, e53, e34, e35, e56, i1, i2]
/-- all moments -/
theorem moments (c : Calls cf) {w0 w2 w7 w9 : Option W} {o : List Nat} (hS : belows S.length S = true) (h : Wq os ls sp) (ho : OkO (os.length + sp) 60 o) (w6 w8 : Option W) :
    Tot (forFix (setT ⟨cf, Ir.P, fu⟩ (.nm 6)) (execSs ⟨cf, Ir.P, fu⟩ Ir.f62b1) ((List.range (o.length + 1)).map fun t : Nat => D.int t) (e62 w0 w2 (some (.d (specQ os ls sp))) (some (.d (wishQ os ls sp))) (some (.d (natsD o))) w6 w7 w8 w9) S)
      fun f S' => ∃ η', f = .nx η' ∧ S' = S ∧ ∃ w6 w8, η' = e62 w0 w2 (some (.d (specQ os ls sp))) (some (.d (wishQ os ls sp))) (some (.d (natsD o))) w6 w7 w8 w9 := by
  refine Tot.forF (fun t : Nat => D.int t) (fun (u : Unit) _ => u) (fun _ η S' => S' = S ∧ ∃ w6 w8, η = e62 w0 w2 (some (.d (specQ os ls sp))) (some (.d (wishQ os ls sp))) (some (.d (natsD o))) w6 w7 w8 w9) (all := List.range (o.length + 1)) (fun t ht u η S' => ?_) _ () _ S (fun _ h => h) ⟨rfl, _, _, rfl⟩
  rintro ⟨rfl, w6, w8, rfl⟩
  have ht := List.mem_range.mp ht
  rw [st_nm, if_pos (by simp), bnd_ok]
  have e := moment (fu := fu) (w0 := w0) (w2 := w2) (w7 := w7) (w8 := w8) (w9 := w9) c hS h ho (show t ≤ o.length by omega)
  simp only [List.set_cons_succ, List.set_cons_zero]
  rw [e]
  simp
/-- again -/
theorem agains (c : Calls cf) {w0 w2 w6 w8 w9 : Option W} {o : List Nat} (hp : p.Ok N) (hN : N + 600 < 1000000) (hT : ∀ k, belows k T = true) (h : Wq os ls sp) (ho : OkO (os.length + sp) 60 o) (w7 : Option W) :
    Tot (forFix (setT ⟨cf, Ir.P, fu⟩ (.nm 7)) (execSs ⟨cf, Ir.P, fu⟩ Ir.f62b0) ((List.range 3).map fun t : Nat => D.int t) (e62 w0 w2 (some (.d (specQ os ls sp))) (some (.d (wishQ os ls sp))) (some (.d (natsD o))) w6 w7 w8 w9) (p.st ++ T))
      fun f S' => ∃ η', f = .nx η' ∧ ∃ (p' : Po) (w7 : Option W), S' = p'.st ++ T ∧ η' = e62 w0 w2 (some (.d (specQ os ls sp))) (some (.d (wishQ os ls sp))) (some (.d (natsD o))) w6 w7 w8 w9 ∧ p'.Ok (N + 30) := by
  have B := Tot.forR (set := setT ⟨cf, Ir.P, fu⟩ (.nm 7)) (body := execSs ⟨cf, Ir.P, fu⟩ Ir.f62b0) (fun t : Nat => D.int t) (fun (u : Unit) _ => u) (fun zs _ η S' => ∃ (p' : Po) (w7 : Option W), S' = p'.st ++ T ∧ η = e62 w0 w2 (some (.d (specQ os ls sp))) (some (.d (wishQ os ls sp))) (some (.d (natsD o))) w6 w7 w8 w9 ∧ zs.length ≤ 3 ∧ p'.Ok (N + (3 - zs.length) * 10))
    (fun t zs u η S' => by
      rintro ⟨p1, w7, rfl, rfl, hz, k1⟩
      simp only [List.length_cons] at hz k1
      rw [st_nm, if_pos (by simp), bnd_ok]
      simp [getV]
      refine Tot.seq (c.r61 k1 (by omega) h ho hT) ?_
      rintro _ _ ⟨_, p2, rfl, rfl, rfl, k2⟩
      simp
      exact ⟨p2, rfl, by omega, k2.up (by omega)⟩)
    (List.range 3) () (e62 w0 w2 (some (.d (specQ os ls sp))) (some (.d (wishQ os ls sp))) (some (.d (natsD o))) w6 w7 w8 w9) (p.st ++ T) ⟨p, _, rfl, rfl, by simp, by simpa using hp⟩
  refine B.mono ?_
  rintro f S' ⟨η', rfl, p', w7', rfl, rfl, _, k'⟩
  exact ⟨_, rfl, p', w7', rfl, rfl, by simpa using k'⟩
/-- a turn -/
theorem turn (c : Calls cf) {w0 w3 w4 w5 w6 w7 w8 w9 : Option W} {i : Int} (hp : p.Ok N) (hN : N + 20000 < 1000000) (hT : ∀ k, belows k T = true) :
    Tot (execSs ⟨cf, Ir.P, fu⟩ Ir.f62b2 (e62 w0 (some (.d (.int i))) w3 w4 w5 w6 w7 w8 w9) (p.st ++ T))
      (TQ fun η' S' => ∃ (p' : Po) (w3 w4 w5 w6 w7 w8 w9 : Option W), η' = e62 w0 (some (.d (.int i))) w3 w4 w5 w6 w7 w8 w9 ∧ S' = p'.st ++ T ∧ p'.Ok (N + 3000)) := by
  have hB : ∀ p : Po, belows (p.st ++ T).length (p.st ++ T) = true := fun p => bl_st hT
  refine Tot.st (C := ⟨cf, Ir.P, fu⟩) (fun η' S' => ∃ x p', η' = e62 w0 (some (.d (.int i))) (some (.d x)) w4 w5 w6 w7 w8 w9 ∧ S' = Po.st p' ++ T ∧ SpecM 5 x ∧ p'.Ok (N + 2000)) ?_ ?_
  · simp [getV]
    refine Tot.seq (c.w50 (mo := 5) (by decide) (by decide) hp (by omega) hT) ?_
    rintro _ _ ⟨x, p', rfl, rfl, hx, k'⟩
    simp
    exact TQ.mk ⟨x, p', rfl, rfl, hx, k'⟩
  rintro _ _ ⟨x, p1, rfl, rfl, hx, k1⟩
  obtain ⟨os, ls, sp, rfl, hq⟩ := SpecM.q hx
  have hl5 := hq.o.l5
  have hl1 := hq.o.l1
  have hsp := hq.s
  refine Tot.se (C := ⟨cf, Ir.P, fu⟩) (η' := e62 w0 (some (.d (.int i))) (some (.d (specQ os ls sp))) (some (.d (wishQ os ls sp))) w5 w6 w7 w8 w9) (by simp [getV, c.m51 hq (hB p1)]) ?_
  refine Tot.st (C := ⟨cf, Ir.P, fu⟩) (fun η' S' => ∃ o p', η' = e62 w0 (some (.d (.int i))) (some (.d (specQ os ls sp))) (some (.d (wishQ os ls sp))) (some (.d (natsD o))) w6 w7 w8 w9 ∧ S' = Po.st p' ++ T ∧ OkO (os.length + sp) 60 o ∧ p'.Ok (N + 2200)) ?_ ?_
  · simp [getV]
    refine Tot.seq (c.o57 k1 (by omega) rfl (by omega) (by omega) hT) ?_
    rintro _ _ ⟨_, p', rfl, rfl, ⟨o, rfl, ho⟩, k'⟩
    simp
    exact TQ.mk ⟨o, p', rfl, rfl, ho.up (by omega), k'⟩
  rintro _ _ ⟨o, p2, rfl, rfl, ho, k2⟩
  refine Tot.st (C := ⟨cf, Ir.P, fu⟩) (fun η' S' => ∃ o p', η' = e62 w0 (some (.d (.int i))) (some (.d (specQ os ls sp))) (some (.d (wishQ os ls sp))) (some (.d (natsD o))) w6 w7 w8 w9 ∧ S' = Po.st p' ++ T ∧ OkO (os.length + sp) 60 o ∧ p'.Ok (N + 2300)) ?_ ?_
  · by_cases hi : i = 0
    · subst hi
      simp [getV]
      refine Tot.seq (c.d k2 (by omega) (by decide) (by decide) hT) ?_
      rintro _ _ ⟨a, p3, rfl, rfl, a0, a1, k3⟩
      by_cases ha : a = 0
      · subst ha
        simp [getV]
        refine Tot.seq (c.d k3 (by omega) (by decide) (by decide) hT) ?_
        rintro _ _ ⟨b, p4, rfl, rfl, b0, b1, k4⟩
        obtain ⟨b, rfl⟩ : ∃ c : Nat, b = c := ⟨b.toNat, by omega⟩
        have rl : (-lineR ≤ (55 : Int) + (b : Int)) ∧ (55 : Int) + (b : Int) < lineR := by unfold lineR; omega
        have hr : ((55 : Int) + (b : Int)).toNat = 55 + b := by omega
        simp [rl, hr, wipeE]
        refine Tot.seq (comp_poolL (L := 60) (NatG (os.length + sp)) 1 (by simp) (by simp; omega) (by omega) k4 (by omega) ?_) ?_
        · rintro x hx p' N' k' hN'
          have e52 := c.a52 (os := os) (ls := ls) (sp := sp) (hB p')
          simp only [Int.natCast_add] at e52
          simp [getV, e52]
          refine Tot.mono (c.d k' (by omega) (by omega) (by omega) hT) ?_
          rintro _ _ ⟨r, p5, rfl, rfl, r0, r1, k5⟩
          obtain ⟨r, rfl⟩ : ∃ c : Nat, r = c := ⟨r.toNat, by omega⟩
          exact ⟨_, p5, rfl, rfl, ⟨r, rfl, by omega⟩, k5⟩
        · rintro zs _ ⟨h1, h2, p', rfl, k'⟩
          obtain ⟨q, rfl, hq2⟩ := nats_ex h2
          rw [natL_len] at h1
          simp at h1
          simp [biD, seqOf]
          exact TQ.mk ⟨q, p', rfl, rfl, ⟨by omega, hq2⟩, k'.up (by omega)⟩
      · simp [ha]
        exact TQ.mk ⟨o, p3, rfl, rfl, ho, k3.up (by omega)⟩
    · simp [getV, hi]
      exact TQ.mk ⟨o, p2, rfl, rfl, ho, k2.up (by omega)⟩
  rintro _ _ ⟨o, p3, rfl, rfl, ho, k3⟩
  have hol := ho.1
  have bn : ∀ S : Store, biD .len [.d (natsD o)] S = some (.int (o.length : Nat)) := fun S => by simp [natsD, biD, seqOf, natL_len]
  have rl : (-lineR ≤ (o.length : Int) + 1) ∧ (o.length : Int) + 1 < lineR := by unfold lineR; omega
  have hr : ((o.length : Int) + 1).toNat = o.length + 1 := by omega
  refine Tot.st (C := ⟨cf, Ir.P, fu⟩) (fun η' S' => S' = p3.st ++ T ∧ ∃ w6 w8, η' = e62 w0 (some (.d (.int i))) (some (.d (specQ os ls sp))) (some (.d (wishQ os ls sp))) (some (.d (natsD o))) w6 w7 w8 w9) ?_ ?_
  · have L := moments (fu := fu) (w0 := w0) (w2 := some (.d (.int i))) (w7 := w7) (w9 := w9) c (hB p3) hq ho w6 w8
    simp [-List.map_map, getV, bn, rl, hr, forSrc]
    refine L.mono ?_
    rintro _ _ ⟨η', rfl, rfl, w6, w8, rfl⟩
    exact TQ.mk ⟨rfl, _, _, rfl⟩
  rintro _ _ ⟨rfl, w6', w8', rfl⟩
  refine Tot.st (C := ⟨cf, Ir.P, fu⟩) (fun η' S' => ∃ (p' : Po) (w7 : Option W), S' = p'.st ++ T ∧ η' = e62 w0 (some (.d (.int i))) (some (.d (specQ os ls sp))) (some (.d (wishQ os ls sp))) (some (.d (natsD o))) w6' w7 w8' w9 ∧ p'.Ok (N + 2400)) ?_ ?_
  · have L := agains (fu := fu) (w0 := w0) (w2 := some (.d (.int i))) (w6 := w6') (w8 := w8') (w9 := w9) c k3 (by omega) hT hq ho w7
    have rl3 : (-lineR ≤ (3 : Int)) ∧ (3 : Int) < lineR := by unfold lineR; omega
    simp [-List.map_map, getV, rl3, forSrc]
    refine L.mono ?_
    rintro _ _ ⟨η', rfl, p', w7, rfl, rfl, k'⟩
    exact TQ.mk ⟨p', w7, rfl, rfl, k'.up (by omega)⟩
  rintro _ _ ⟨p4, w7', rfl, rfl, k4⟩
  simp
  exact TQ.mk ⟨p4, _, _, _, _, _, _, _, rfl, rfl, k4.up (by omega)⟩
end
theorem F62 {fu n : Nat} {xs : List Int} (hx : xs.length ≤ 63) (hfu : 1000000 < fu) : ∃ S', callF Ir.P fu (n + 13) 62 [.scr xs] [] = .ok (.d (.bl true)) S' := by
  have c := calls (n := n) hfu
  have h36 : ∀ {Q : W → Store → Prop}, (∀ p : Po, p.Ok 0 → Q (.loc 1) p.st) → Tot (callF Ir.P fu (n + 12) 36 [.scr xs] []) Q := fun hQ => pool_ok (i := 36) rfl hx hQ
  suffices h : Tot (callF Ir.P fu (n + 13) 62 [.scr xs] []) fun w _ => w = .d (.bl true) by
    obtain ⟨w, S', e, rfl⟩ := h.ex
    exact ⟨S', e⟩
  rw [runT (fd := Ir.f62) rfl rfl]
  generalize callF Ir.P fu (n + 12) = cf at *
  refine Tot.fin ?_
  have rl : (-lineR ≤ (3 : Int)) ∧ (3 : Int) < lineR := by unfold lineR; omega
  simp only [Ir.f62, startE]
  refine Tot.st (C := ⟨cf, Ir.P, fu⟩) (fun η' S' => ∃ p : Po, η' = e62 (some (.scr xs)) none none none none none none none none ∧ S' = p.st ∧ p.Ok 0) ?_ ?_
  · simp [getV]
    refine Tot.seq (h36 (Q := fun w S => ∃ p : Po, w = .loc 1 ∧ S = p.st ∧ p.Ok 0) fun p hp => ⟨p, rfl, rfl, hp⟩) ?_
    rintro _ _ ⟨p, rfl, rfl, hp⟩
    simp
    exact TQ.mk ⟨p, rfl, rfl, hp⟩
  rintro _ _ ⟨p, rfl, rfl, hp⟩
  refine Tot.st (C := ⟨cf, Ir.P, fu⟩) (fun η' S' => ∃ (p' : Po) (w2 w3 w4 w5 w6 w7 w8 w9 : Option W), η' = e62 (some (.scr xs)) w2 w3 w4 w5 w6 w7 w8 w9 ∧ S' = p'.st ∧ p'.Ok 9000) ?_ ?_
  · rw [x_for]
    simp only [i_rng', ev_int, bnd_ok, rl.1, rl.2, and_self, if_true, forSrc]
    refine Tot.mono (Tot.forR (fun i : Nat => D.int (i : Nat)) (fun (b : Unit) (_ : Nat) => b) (fun zs b η S' => ∃ (p' : Po) (w2 w3 w4 w5 w6 w7 w8 w9 : Option W), η = e62 (some (.scr xs)) w2 w3 w4 w5 w6 w7 w8 w9 ∧ S' = p'.st ∧ zs.length ≤ 3 ∧ p'.Ok (3000 * (3 - zs.length))) ?_ (List.range (3 : Int).toNat) () _ _ ⟨p, _, _, _, _, _, _, _, _, rfl, rfl, by decide, hp.up (by omega)⟩) ?_
    · rintro z zs b η S' ⟨p', w2, w3, w4, w5, w6, w7, w8, w9, rfl, rfl, hl, k'⟩
      simp only [List.length_cons] at hl k'
      rw [st_nm, if_pos (by simp), bnd_ok]
      have ht := turn (fu := fu) (T := []) (w0 := some (.scr xs)) (i := (z : Nat)) (w3 := w3) (w4 := w4) (w5 := w5) (w6 := w6) (w7 := w7) (w8 := w8) (w9 := w9) c k' (by omega) (fun k => rfl)
      rw [List.append_nil] at ht
      refine Tot.mono ht ?_
      rintro _ _ ⟨η', rfl, p2, w3, w4, w5, w6, w7, w8, w9, rfl, rfl, k2⟩
      exact ⟨_, rfl, p2, _, _, _, _, _, _, _, _, rfl, by simp, by omega, k2.up (by omega)⟩
    · rintro _ _ ⟨η', rfl, p', w2, w3, w4, w5, w6, w7, w8, w9, rfl, rfl, hl, k'⟩
      exact TQ.mk ⟨p', _, _, _, _, _, _, _, _, rfl, rfl, k'.up (by simp)⟩
  rintro _ _ ⟨p', w2, w3, w4, w5, w6, w7, w8, w9, rfl, rfl, k'⟩
  simp
  exact ⟨by simp [belows], by simp⟩
theorem law07 : ∀ xs : List Int, xs.length ≤ 63 → ∃ S', callF Ir.P 10000000000 40 Ir.lawId [.scr xs] [] = .ok (.d (.bl true)) S' := fun xs hx => F62 (n := 27) hx (by decide)
end K07
theorem PySem.Challenge.cw_oncetwice_k07_whole_stages_and_lacks_holds : PySem.Challenge.rw_oncetwice_k07_whole_stages_and_lacks.Holds := by
  exact law_of K07.law07
