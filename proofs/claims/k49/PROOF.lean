import PyProof.Rows.All
import Wide.All
import OpenK.AllK
import Wide.FinOn
import HandS.ForMost
import HandS.ForExc
import HandS.ExcInit
import HandS.TupMul
import HandS.TupAny
import HandS.Zip
import HandS.Style
import HandS.Conv
import HandS.IsInst
import HandS.Wide
import HandS.Defaults
import HandS.Flow
import HandS.Deep
import HandS.RaiseMore
import KE.GoesEnum
import KE.GoesMore
import KE.GoesZip
import HandS.OwnEq
import PyProof.InstNe
import HandS.Head0
import HandS.Head1
import HandS.Head2
import HandS.HeadEnd
import HandS.HeadHook1
import HandS.HeadHook2
import HandS.HeadHook3
import HandS.HeadHook4
import HandS.Ends
import HandS.Text
import PyProof.P3Eq
import KE.KStateDown
import PySem.Challenge.RW_oncetwice_k49_whole_texts_there_and_back
set_option Elab.async false
set_option linter.all false
set_option maxRecDepth 100000
set_option maxHeartbeats 0
/-! RI1: values, stores, the small language, its evaluator (plain Lean, no heap). -/
namespace RI
open PySem (Str)

/-- data that never change -/
inductive D where
  | non | bl (b : Bool) | int (i : Int) | str (s : List Nat)
  | tup (xs : List D) | lst (xs : List D) | dic (kvs : List (D × D)) | obj (c : Nat) (fs : List (Nat × D)) | fn (f : Nat)
  deriving Inhabited

/-- what a name holds: data, a cell of the store, the script, a caught error -/
inductive W where
  | d (x : D) | loc (l : Nat) | scr (ns : List Int) | exn (c : Nat) (fs : List (Nat × D))
  deriving Inhabited

inductive Cell where
  | lst (xs : List D) | lsw (ws : List W) | dct (kvs : List (D × D)) | ins (c : Nat) (fs : List (Nat × W)) | dead
  deriving Inhabited

abbrev Store := List Cell
abbrev Env := List (Option W)

inductive Res (α : Type) where
  | ok (a : α) (S : Store) | exc (c : Nat) (fs : List (Nat × D)) (S : Store) | stk

def Res.bind {α β : Type} (r : Res α) (f : α → Store → Res β) : Res β :=
  match r with
  | .ok a S => f a S
  | .exc c fs S => .exc c fs S
  | .stk => .stk

@[simp] theorem Res.bind_ok {α β : Type} (a : α) (S : Store) (f : α → Store → Res β) : (Res.ok a S).bind f = f a S := rfl
@[simp] theorem Res.bind_exc {α β : Type} (c : Nat) (fs : List (Nat × D)) (S : Store) (f : α → Store → Res β) : (Res.exc c fs S).bind f = .exc c fs S := rfl
@[simp] theorem Res.bind_stk {α β : Type} (f : α → Store → Res β) : (Res.stk : Res α).bind f = .stk := rfl

def ofO {α : Type} (o : Option α) (S : Store) : Res α :=
  match o with
  | some a => .ok a S
  | none => .stk
@[simp] theorem ofO_some {α : Type} (a : α) (S : Store) : ofO (some a) S = .ok a S := rfl
@[simp] theorem ofO_none {α : Type} (S : Store) : ofO (none : Option α) S = .stk := rfl

/-! ### data equal -/
mutual
def toPD : D → Option PySem.PyData
  | .non => some .none
  | .bl b => some (.bool b)
  | .int i => some (.int i)
  | .str s => some (.str ⟨s.toArray⟩)
  | .tup xs => (toPDs xs).map .tuple
  | .lst xs => (toPDs xs).map .list
  | _ => none
def toPDs : List D → Option (List PySem.PyData)
  | [] => some []
  | x :: xs => match toPD x, toPDs xs with
    | some p, some ps => some (p :: ps)
    | _, _ => none
end

/-- == of data -/
def pyEq (a b : D) : Option Bool :=
  match toPD a, toPD b with
  | some p, some q => if PySem.SeqAt.shaped p && PySem.SeqAt.shaped q then some (PySem.PyData.eqv p q) else none
  | _, _ => none

/-! ### cells to data -/
def wsD : List (Nat × W) → Option (List (Nat × D))
  | [] => some []
  | (f, .d x) :: r => (wsD r).map ((f, x) :: ·)
  | _ => none
def cellD : Cell → Option D
  | .lst xs => some (.lst xs)
  | .dct kvs => some (.dic kvs)
  | .ins c fs => (wsD fs).map (.obj c)
  | _ => none
/-- what a name holds becomes data; its cell can't be written any more -/
def toD (w : W) (S : Store) : Res D :=
  match w with
  | .d x => .ok x S
  | .loc l => match S[l]?.bind cellD with
    | some x => .ok x (S.set l .dead)
    | none => .stk
  | _ => .stk
def toDs : List W → Store → Res (List D)
  | [], S => .ok [] S
  | w :: ws, S => (toD w S).bind fun x S1 => (toDs ws S1).bind fun xs S2 => .ok (x :: xs) S2
@[simp] theorem toD_d (x : D) (S : Store) : toD (.d x) S = .ok x S := rfl
@[simp] theorem toDs_nil (S : Store) : toDs [] S = .ok [] S := rfl
@[simp] theorem toDs_d (x : D) (ws : List W) (S : Store) : toDs (.d x :: ws) S = (toDs ws S).bind fun xs S2 => .ok (x :: xs) S2 := rfl

def wBelow (n : Nat) : W → Bool
  | .loc l => decide (l < n)
  | _ => true
def cellBelow (n : Nat) : Cell → Bool
  | .lsw ws => ws.all (wBelow n)
  | .ins _ fs => fs.all fun p => wBelow n p.2
  | _ => true
def belows (n : Nat) (S : Store) : Bool := S.all (cellBelow n)

/-! ### the language -/
inductive BOp where | add | sub | mul | fdiv | mod | pow
  deriving DecidableEq
inductive COp where | eq | ne | lt | le | gt | ge | inn | nin
  deriving DecidableEq
inductive Ty where | none | bool | int | str | tuple | list | dict | cls (c : Nat) | valueError
  deriving DecidableEq
inductive BI where | abs | all | any | int | len | list | str | sum | tuple | min | repr | sorted
  deriving DecidableEq
inductive BM where | append | extend | pop | count | index | get | join | split
  deriving DecidableEq

mutual
inductive IE where
  | var (i : Nat) | glob (k : Nat) | fnv (f : Nat)
  | non | bl (b : Bool) | int (i : Int) | str (s : List Nat)
  | tup (es : IEs) | lst (es : IEs) | dic0
  | bin (o : BOp) (a b : IE) | neg (a : IE) | not (a : IE)
  | cmp (o : COp) (a b : IE) | chain (o o' : COp) (a b c : IE) | isn (neg : Bool) (a : IE) | isb (b : Bool) (a : IE)
  | and (es : IEs) | or (es : IEs)
  | ifx (c a b : IE)
  | call (f : Nat) (es : IEs) | callv (i : Nat) (es : IEs) | meth (e : IE) (m : Nat) (es : IEs) | mk (c : Nat) (es : IEs)
  | bi (b : BI) (es : IEs) | bm (e : IE) (m : BM) (es : IEs)
  | fld (e : IE) (f : Nat)
  | ix (a b : IE) | sl (a : IE) (lo hi : IO)
  | lc (e : IE) (own : List Nat) (t : IT) (it : II) (ifs : IO)
  | isi (e : IE) (ts : List Ty)
  | thaw (e : IE)
inductive IEs where
  | nil | cons (e : IE) (es : IEs)
inductive IO where
  | no | yes (e : IE)
inductive II where
  | seq (e : IE) | rng (a : IE) | rng2 (a b : IE) | enum (e : IE) | zip (a b : IE)
inductive IT where
  | nm (i : Nat) | tup (ts : ITs) | sub (o i : IE) | fld (o : IE) (f : Nat)
inductive ITs where
  | nil | cons (t : IT) (ts : ITs)
end

mutual
inductive IS where
  | expr (e : IE) | ret (e : IE) | retN | pass | brk | cont
  | asg (t : IT) (e : IE)
  | par (is : List Nat) (es : IEs)
  | aug (i : Nat) (o : BOp) (e : IE)
  | ife (c : IE) (a b : ISs) | for_ (t : IT) (it : II) (b : ISs) | whl (c : IE) (b : ISs)
  | raise (c : Nat) (es : IEs) | tryx (body : ISs) (c : Nat) (i : Nat) (suite : ISs)
inductive ISs where
  | nil | cons (s : IS) (ss : ISs)
end

structure FnD where
  name : Str
  N : List Str
  np : Nat
  body : ISs
  keep : Bool
  top : Bool := true
structure ClD where
  name : Str
  init : Option Nat
  meths : List (Nat × Nat)
  frozen : Bool
  sups : List Nat
  exc : Option (List Nat)
structure Prog where
  fns : List FnD
  cls : List ClD
  consts : List D
  cnm : List Str := []
  flds : List Nat := []

/-- where an expression is run -/
structure Ctx where
  call : Nat → List W → Store → Res W
  P : Prog
  fu : Nat

/-! ### operations on what is held -/
inductive SK where | tup | lst
  deriving DecidableEq
def seqOf (w : W) (S : Store) : Option (SK × List D) :=
  match w with
  | .d (.tup xs) => some (.tup, xs)
  | .d (.lst xs) => some (.lst, xs)
  | .scr ns => some (.lst, ns.map D.int)
  | .loc l => match S[l]? with
    | some (.lst xs) => some (.lst, xs)
    | _ => none
  | _ => none
/-- a list that is no script -/
def lstOf (w : W) (S : Store) : Option (List D) :=
  match w with
  | .d (.lst xs) => some xs
  | .loc l => match S[l]? with
    | some (.lst xs) => some xs
    | _ => none
  | _ => none

def line : Nat := 16777216
def bitsOk (i j : Int) : Bool := decide (i.natAbs.log2 + j.natAbs.log2 < 1000000)
def rep {α : Type} (k : Int) (xs : List α) : List α := (List.replicate k.toNat xs).flatten

def addD (a b : W) (S : Store) : Option D :=
  match a, b with
  | .d (.int i), .d (.int j) => some (.int (i + j))
  | .d (.str s), .d (.str t) => if s.length + t.length ≤ line then some (.str (s ++ t)) else none
  | .d (.tup s), .d (.tup t) => if s.length + t.length ≤ line then some (.tup (s ++ t)) else none
  | x, y => match lstOf x S, lstOf y S with
    | some s, some t => if s.length + t.length ≤ line then some (.lst (s ++ t)) else none
    | _, _ => none
def subD (a b : W) (_ : Store) : Option D :=
  match a, b with
  | .d (.int i), .d (.int j) => some (.int (i - j))
  | _, _ => none
def mulD (a b : W) (S : Store) : Option D :=
  match a, b with
  | .d (.int i), .d (.int j) => if bitsOk i j then some (.int (i * j)) else none
  | .d (.tup s), .d (.int k) => if s ≠ [] ∧ 2 ≤ k ∧ k ≤ 1000 ∧ s.length ≤ 1000 then some (.tup (rep k s)) else none
  | x, .d (.int k) => match lstOf x S with
    | some s => if s.length * k.toNat ≤ line ∧ -(2 ^ 63) ≤ k ∧ k < 2 ^ 63 then some (.lst (rep k s)) else none
    | none => none
  | _, _ => none
def fdivD (a b : W) (_ : Store) : Option D :=
  match a, b with
  | .d (.int i), .d (.int j) => if (0 < j ∧ j.natAbs.log2 < 9000) ∨ (j ≠ 0 ∧ j.natAbs < 1073741824) then some (.int (i.fdiv j)) else none
  | _, _ => none
def modD (a b : W) (_ : Store) : Option D :=
  match a, b with
  | .d (.int i), .d (.int j) => if j ≠ 0 then some (.int (i.fmod j)) else none
  | _, _ => none
def powD (a b : W) (_ : Store) : Option D :=
  match a, b with
  | .d (.int i), .d (.int j) => if 0 ≤ j ∧ j ≤ 1000000 ∧ i.natAbs < 2 ^ 64 then some (.int (i ^ j.toNat)) else none
  | _, _ => none
def binD : BOp → W → W → Store → Option D
  | .add => addD | .sub => subD | .mul => mulD | .fdiv => fdivD | .mod => modD | .pow => powD

/-- flat data -/
def flatD : D → Bool
  | .non => true
  | .bl _ => true
  | .int _ => true
  | .str _ => true
  | _ => false
/-- == of flat data -/
def eqF : D → D → Bool
  | .non, .non => true
  | .bl a, .bl b => a == b
  | .bl a, .int b => (if a then 1 else 0) == b
  | .int a, .bl b => a == (if b then 1 else 0)
  | .int a, .int b => a == b
  | .str a, .str b => a == b
  | _, _ => false
/-- x in a sequence -/
def pyIn (k : SK) (x : D) (ys : List D) : Option Bool :=
  if flatD x && ys.all flatD then some (ys.any fun y => eqF y x) else
    match toPD x, toPDs ys with
    | some p, some ps => if PySem.SeqAt.shaped p ∧ PySem.SeqAt.shaped (.list ps) then some (ps.any fun z => PySem.PyData.eqv z p) else none
    | _, _ => none
def intC (p : Int → Int → Bool) (a b : W) (_ : Store) : Option Bool :=
  match a, b with
  | .d (.int i), .d (.int j) => some (p i j)
  | _, _ => none
def eqD (a b : W) (S : Store) : Option Bool :=
  match a, b with
  | .d x, .d y => pyEq x y
  | x, y => match lstOf x S, lstOf y S with
    | some s, some t => pyEq (.lst s) (.lst t)
    | _, _ => none
def inD (a b : W) (S : Store) : Option Bool :=
  match a, b with
  | .d (.str [c]), .d (.str y) => some (decide (c ∈ y))
  | .d x, y => match seqOf y S with
    | some (k, ys) => pyIn k x ys
    | none => none
  | _, _ => none
def cmpD : COp → W → W → Store → Option Bool
  | .lt => intC fun i j => decide (i < j)
  | .le => intC fun i j => decide (i ≤ j)
  | .gt => intC fun i j => decide (j < i)
  | .ge => intC fun i j => decide (j ≤ i)
  | .eq => eqD
  | .ne => fun a b S => (eqD a b S).map (!·)
  | .inn => inD
  | .nin => fun a b S => (inD a b S).map (!·)

def truthy (w : W) (S : Store) : Option Bool :=
  match w with
  | .d .non => some false
  | .d (.bl b) => some b
  | .d (.int i) => some (i != 0)
  | .d (.str s) => if s.length ≤ line then some (!s.isEmpty) else none
  | .d (.obj _ _) => none
  | .d (.fn _) => none
  | .d (.dic _) => none
  | w => (seqOf w S).map fun p => !p.2.isEmpty

/-- the place of an index of any sign -/
def ixOf (n : Nat) (i : Int) : Option Nat := L2.ixN n i

def ixD (a b : W) (S : Store) : Option W :=
  match b with
  | .d (.int i) => match a with
    | .d (.str s) => if s.length ≤ line then (L2.atI s i).map fun c => .d (.str [c]) else none
    | .loc l => match S[l]? with
      | some (.lst xs) => (L2.atI xs i).map .d
      | some (.lsw ws) => L2.atI ws i
      | _ => none
    | a => match seqOf a S with
      | some (_, xs) => (L2.atI xs i).map .d
      | none => none
  | _ => none

def cut {α : Type} (xs : List α) (lo hi : Option Int) : List α := (xs.drop (_root_.HT.sIx xs.length 0 lo)).take (_root_.HT.sIx xs.length xs.length hi - _root_.HT.sIx xs.length 0 lo)

def slD (a : W) (lo hi : Option Int) (S : Store) : Option D :=
  match a with
  | .d (.str s) => if s.length ≤ line then some (.str (cut s lo hi)) else none
  | a => match seqOf a S with
    | some (.tup, xs) => some (.tup (cut xs lo hi))
    | some (.lst, xs) => some (.lst (cut xs lo hi))
    | none => none

def tyName (w : W) (S : Store) : Option Ty :=
  match w with
  | .d .non => some .none
  | .d (.bl _) => some .bool
  | .d (.int _) => some .int
  | .d (.str _) => some .str
  | .d (.tup _) => some .tuple
  | .d (.lst _) => some .list
  | .d (.dic _) => some .dict
  | .d (.obj c _) => some (.cls c)
  | .loc l => match S[l]? with
    | some (.lst _) => some .list
    | some (.lsw _) => some .list
    | some (.dct _) => some .dict
    | some (.ins c _) => some (.cls c)
    | _ => none
  | .scr _ => some .list
  | _ => none
/-- is of the class -/
def tyIs (P : Prog) (t u : Ty) : Bool :=
  match t, u with
  | .bool, .int => true
  | .cls c, .cls e => match P.cls[c]? with
    | some k => k.sups.contains e
    | none => false
  | .cls c, .valueError => match P.cls[c]? with
    | some k => k.exc.isSome
    | none => false
  | t, u => decide (t = u)

def decI (i : Int) : List Nat := (Str.ofString (toString i)).cps.toList

def digitsOk : List Nat → Bool
  | [] => true
  | c :: cs => decide (48 ≤ c) && decide (c ≤ 57) && digitsOk cs
def decVal (cs : List Nat) : Nat := cs.foldl (fun acc c => acc * 10 + (c - 48)) 0

def allB : List D → Option Bool
  | [] => some true
  | .bl b :: r => (allB r).map (b && ·)
  | _ => none
def anyB : List D → Option Bool
  | [] => some false
  | .bl b :: r => (anyB r).map (b || ·)
  | _ => none
def intsOf : List D → Option (List Int)
  | [] => some []
  | .int i :: r => (intsOf r).map (i :: ·)
  | _ => none
def strsOf : List D → Option (List (List Nat))
  | [] => some []
  | .str i :: r => (strsOf r).map (i :: ·)
  | _ => none

def biD (b : BI) (ws : List W) (S : Store) : Option D :=
  match b, ws with
  | .abs, [.d (.int i)] => some (.int (if i < 0 then -i else i))
  | .int, [.d (.int i)] => some (.int i)
  | .int, [.d (.bl k)] => some (.int (if k then 1 else 0))
  | .int, [.d (.str s)] => if s ≠ [] ∧ s.length ≤ 640 ∧ digitsOk s then some (.int (decVal s)) else none
  | .str, [.d (.int i)] => if i.natAbs.log2 < 1920 then some (.str (decI i)) else none
  | .str, [.d (.str s)] => some (.str s)
  | .len, [.d (.str s)] => if s.length ≤ line then some (.int s.length) else none
  | .len, [w] => (seqOf w S).map fun p => .int p.2.length
  | .list, [w] => (seqOf w S).map fun p => .lst p.2
  | .tuple, [w] => (seqOf w S).map fun p => .tup p.2
  | .all, [w] => (lstOf w S).bind fun xs => (allB xs).map .bl
  | .any, [w] => (lstOf w S).bind fun xs => (anyB xs).map .bl
  | .sum, [w] => match seqOf w S with
    | some (.lst, xs) => (intsOf xs).map fun ns => .int ns.sum
    | _ => none
  | _, _ => none

def joinL (sep : List Nat) : List (List Nat) → List Nat
  | [] => []
  | [x] => x
  | x :: y :: r => x ++ sep ++ joinL sep (y :: r)
/-- cut at each sign that is c -/
def splitL (c : Nat) : List Nat → List (List Nat)
  | [] => [[]]
  | x :: xs => if x = c then [] :: splitL c xs else match splitL c xs with
    | [] => [[x]]
    | p :: ps => (x :: p) :: ps

def isLoc (l : Nat) : W → Bool
  | .loc m => l == m
  | _ => false
/-- methods of built-in types -/
def bmD (m : BM) (o : W) (ws : List W) (S : Store) : Res W :=
  match m, o, ws with
  | .append, .loc l, [w] => match S[l]? with
    | some (.lst xs) => (toD w S).bind fun x S1 => match S1[l]? with
      | some (.lst xs) => if xs.length < line then .ok (.d .non) (S1.set l (.lst (xs ++ [x]))) else .stk
      | _ => .stk
    | _ => .stk
  | .extend, .loc l, [w] => match S[l]?, lstOf w S with
    | some (.lst xs), some zs => if xs.length + zs.length ≤ line ∧ isLoc l w = false then .ok (.d .non) (S.set l (.lst (xs ++ zs))) else .stk
    | _, _ => .stk
  | .pop, .loc l, [.d (.int i)] => match S[l]? with
    | some (.lst xs) => match L2.ixN xs.length i with
      | some k => match xs[k]? with
        | some x => .ok (.d x) (S.set l (.lst (xs.eraseIdx k)))
        | none => .stk
      | none => .stk
    | _ => .stk
  | .join, .d (.str s), [w] => match (seqOf w S).bind fun p => strsOf p.2 with
    | some ts => if (ts.map List.length).sum + ts.length * s.length ≤ 16777216 then .ok (.d (.str (joinL s ts))) S else .stk
    | none => .stk
  | .split, .d (.str s), [.d (.str [c])] => if s.length + 2 ≤ line ∧ c < 256 then .ok (.d (.lst ((splitL c s).map .str))) S else .stk
  | _, _, _ => .stk

end RI
/-! RI2: the evaluator. -/
namespace RI
open PySem (Str)

inductive Src where
  | fix (xs : List D) | loc (l : Nat) (n : Nat)

/-- how a statement ends -/
inductive Flow where
  | nx (η : Env) | ret (w : W) | brk (η : Env) | cont (η : Env)

def noExc {α : Type} : Res α → Res α
  | .exc _ _ _ => .stk
  | r => r
@[simp] theorem noExc_ok {α : Type} (a : α) (S : Store) : noExc (.ok a S) = .ok a S := rfl
@[simp] theorem noExc_stk {α : Type} : noExc (.stk : Res α) = .stk := rfl

/-! ### loops -/
section
variable (set : W → Env → Store → Res Env) (tst : Env → Store → Res Bool) (elt : Env → Store → Res W)
/-- one turn of a comprehension -/
def lcTurn (η : Env) (x : D) (acc : List D) (S : Store) : Res (List D) :=
  (set (.d x) η S).bind fun η1 S1 => (tst η1 S1).bind fun b S2 =>
    if b = true then (elt η1 S2).bind fun w S3 => (toD w S3).bind fun y S4 => if acc.length < line then .ok (acc ++ [y]) S4 else .stk else .ok acc S2
def lcFix (η : Env) : List D → List D → Store → Res (List D)
  | [], acc, S => .ok acc S
  | x :: xs, acc, S => (lcTurn set tst elt η x acc S).bind fun acc1 S1 => lcFix η xs acc1 S1
def lcLoc (η : Env) (l : Nat) : Nat → Nat → List D → Store → Res (List D)
  | 0, i, acc, S => match S[l]? with
    | some (.lst ys) => if ys.length ≤ i then .ok acc S else .stk
    | _ => .stk
  | n + 1, i, acc, S => match S[l]? with
    | some (.lst ys) => match ys[i]? with
      | some x => (lcTurn set tst elt η x acc S).bind fun acc1 S1 => lcLoc η l n (i + 1) acc1 S1
      | none => .stk
    | _ => .stk
def lcSrc (η : Env) (src : Src) (S : Store) : Res (List D) :=
  match src with
  | .fix xs => lcFix set tst elt η xs [] S
  | .loc l n => lcLoc set tst elt η l n 0 [] S
end

section
variable (set : W → Env → Store → Res Env) (body : Env → Store → Res Flow)
def forFix : List D → Env → Store → Res Flow
  | [], η, S => .ok (.nx η) S
  | x :: xs, η, S => (noExc (set (.d x) η S)).bind fun η1 S1 => (body η1 S1).bind fun f S2 => match f with
    | .nx η2 => forFix xs η2 S2
    | .cont η2 => forFix xs η2 S2
    | .brk η2 => .ok (.nx η2) S2
    | .ret w => .ok (.ret w) S2
def forLoc (l : Nat) : Nat → Nat → Env → Store → Res Flow
  | 0, i, η, S => match S[l]? with
    | some (.lst ys) => if ys.length ≤ i then .ok (.nx η) S else .stk
    | _ => .stk
  | n + 1, i, η, S => match S[l]? with
    | some (.lst ys) => match ys[i]? with
      | some x => (noExc (set (.d x) η S)).bind fun η1 S1 => (body η1 S1).bind fun f S2 => match f with
        | .nx η2 => forLoc l n (i + 1) η2 S2
        | .cont η2 => forLoc l n (i + 1) η2 S2
        | .brk η2 => .ok (.nx η2) S2
        | .ret w => .ok (.ret w) S2
      | none => .stk
    | _ => .stk
def forSrc (src : Src) (η : Env) (S : Store) : Res Flow :=
  match src with
  | .fix xs => forFix set body xs η S
  | .loc l n => forLoc set body l n 0 η S
end

def whileL (c : Env → Store → Res Bool) (body : Env → Store → Res Flow) : Nat → Env → Store → Res Flow
  | 0, _, _ => .stk
  | n + 1, η, S => (c η S).bind fun b S1 => if b = true then (body η S1).bind fun f S2 => match f with
      | .nx η2 => whileL c body n η2 S2
      | .cont η2 => whileL c body n η2 S2
      | .brk η2 => .ok (.nx η2) S2
      | .ret w => .ok (.ret w) S2
    else .ok (.nx η) S1

def wipeE (η : Env) : List Nat → Env
  | [] => η
  | v :: vs => (wipeE η vs).set v none

def getV (η : Env) (i : Nat) : Option W := match η[i]? with
  | some (some w) => some w
  | _ => none

/-- the class of an object -/
def clsOf (w : W) (S : Store) : Option Nat :=
  match w with
  | .d (.obj c _) => some c
  | .loc l => match S[l]? with
    | some (.ins c _) => some c
    | _ => none
  | _ => none
def lookN {α : Type} (k : Nat) : List (Nat × α) → Option α
  | [] => none
  | (j, x) :: r => if k = j then some x else lookN k r
def putN {α : Type} (k : Nat) (y : α) : List (Nat × α) → List (Nat × α)
  | [] => [(k, y)]
  | (j, x) :: r => if j = k then (j, y) :: r else (j, x) :: putN k y r
/-- an ordinary class -/
def ordC (P : Prog) (c : Nat) : Bool := match P.cls[c]? with
  | some k => k.exc.isNone
  | none => false
/-- what isinstance can be asked of -/
def tyOk0 (P : Prog) : Ty → Bool
  | .cls c => ordC P c
  | .valueError => false
  | _ => true
/-- the receiver of a built-in type's method -/
def recvOk (m : BM) (o : W) (S : Store) : Bool := match m with
  | .join => (o matches .d (.str _))
  | .split => (o matches .d (.str _))
  | _ => (lstOf o S).isSome
def fldD (P : Prog) (w : W) (f : Nat) (S : Store) : Option W :=
  match w with
  | .d (.obj c fs) => if ordC P c then (lookN f fs).map .d else none
  | .exn _ fs => (lookN f fs).map .d
  | .loc l => match S[l]? with
    | some (.ins c fs) => if ordC P c then lookN f fs else none
    | _ => none
  | _ => none

/-- a new list's cell -/
def thawD (w : W) (S : Store) : Res W :=
  match w with
  | .d (.lst xs) => .ok (.loc S.length) (S ++ [.lst xs])
  | .d (.dic kvs) => .ok (.loc S.length) (S ++ [.dct kvs])
  | _ => .stk

def setSub (o i w : W) (S : Store) : Res Unit :=
  match o, i with
  | .loc l, .d (.int k) => match S[l]? with
    | some (.lst xs) => match L2.ixN xs.length k with
      | some j => (toD w S).bind fun x S1 => match S1[l]? with
        | some (.lst xs) => .ok () (S1.set l (.lst (xs.set j x)))
        | _ => .stk
      | none => .stk
    | some (.lsw ws) => match L2.ixN ws.length k with
      | some j => .ok () (S.set l (.lsw (ws.set j w)))
      | none => .stk
    | _ => .stk
  | _, _ => .stk
def setFld (P : Prog) (o : W) (f : Nat) (w : W) (S : Store) : Res Unit :=
  match o with
  | .loc l => match S[l]? with
    | some (.ins c fs) => if fs.length < 900 ∧ ordC P c then .ok () (S.set l (.ins c (putN f w fs))) else .stk
    | _ => .stk
  | _ => .stk

section
variable (C : Ctx)
/-- == and != where the left side is an object with an __eq__ of its own -/
def eqOwn (a b : W) (S : Store) : Option Nat :=
  match clsOf a S, clsOf b S with
  | some c, some c' => if c = c' then (match C.P.cls[c]? with
    | some k => lookN 0 k.meths
    | none => none) else none
  | _, _ => none
def cmpW (o : COp) (a b : W) (S : Store) : Res W :=
  match o with
  | .eq => match eqOwn C a b S with
    | some f => (noExc (C.call f [a, b] S)).bind fun w S1 => match w with
      | .d (.bl k) => .ok (.d (.bl k)) S1
      | _ => .stk
    | none => (ofO (cmpD .eq a b S) S).bind fun k S1 => .ok (.d (.bl k)) S1
  | .ne => match eqOwn C a b S with
    | some f => (noExc (C.call f [a, b] S)).bind fun w S1 => match w with
      | .d (.bl k) => .ok (.d (.bl (!k))) S1
      | _ => .stk
    | none => (ofO (cmpD .ne a b S) S).bind fun k S1 => .ok (.d (.bl k)) S1
  | o => (ofO (cmpD o a b S) S).bind fun k S1 => .ok (.d (.bl k)) S1

/-- a new object -/
def mkW (c : Nat) (ws : List W) (S : Store) : Res W :=
  match C.P.cls[c]? with
  | some k => match k.init with
    | some f => (C.call f (.loc S.length :: ws) (S ++ [.ins c []])).bind fun w S1 => match w with
      | .d .non => if k.frozen then match S1[S.length]? with
          | some (.ins c' fs) => match wsD fs with
            | some ds => if c' = c ∧ belows S.length (S1.take S.length) ∧ S.length < S1.length then .ok (.d (.obj c ds)) (S1.take S.length) else .stk
            | none => .stk
          | _ => .stk
        else .ok (.loc S.length) S1
      | _ => .stk
    | none => .stk
  | none => .stk

def lineR : Int := 4611686018427387904

abbrev VT := (Env → Store → Res W) × (Env → Store → Res Bool)
/-- a value, and its truth -/
def mkV (f : Env → Store → Res W) : VT := (f, fun η S => (f η S).bind fun x S1 => ofO (truthy x S1) S1)

mutual
/-- the value of an expression, and its worth as a test -/
def evalP : IE → VT
  | .var i => mkV fun η S => ofO (getV η i) S
  | .glob k => mkV fun _ S => (ofO C.P.consts[k]? S).bind fun x S => .ok (.d x) S
  | .fnv f => mkV fun _ S => .ok (.d (.fn f)) S
  | .non => mkV fun _ S => .ok (.d .non) S
  | .bl b => mkV fun _ S => .ok (.d (.bl b)) S
  | .int i => mkV fun _ S => .ok (.d (.int i)) S
  | .str s => mkV fun _ S => .ok (.d (.str s)) S
  | .tup es => mkV fun η S => (evalEs es η S).bind fun ws S1 => (toDs ws S1).bind fun xs S2 => .ok (.d (.tup xs)) S2
  | .lst es => mkV fun η S => (evalEs es η S).bind fun ws S1 => (toDs ws S1).bind fun xs S2 => .ok (.d (.lst xs)) S2
  | .dic0 => mkV fun _ S => .ok (.d (.dic [])) S
  | .bin o a b => mkV fun η S => ((evalP a).1 η S).bind fun x S1 => ((evalP b).1 η S1).bind fun y S2 => (ofO (binD o x y S2) S2).bind fun z S3 => .ok (.d z) S3
  | .neg a => mkV fun η S => ((evalP a).1 η S).bind fun x S1 => match x with
    | .d (.int i) => .ok (.d (.int (-i))) S1
    | _ => .stk
  | .not a => (fun η S => ((evalP a).1 η S).bind fun x S1 => (ofO (truthy x S1) S1).bind fun b S2 => .ok (.d (.bl (!b))) S2,
      fun η S => ((evalP a).2 η S).bind fun b S1 => .ok (!b) S1)
  | .cmp o a b => mkV fun η S => ((evalP a).1 η S).bind fun x S1 => ((evalP b).1 η S1).bind fun y S2 => cmpW C o x y S2
  | .chain o o' a b c => mkV fun η S => ((evalP a).1 η S).bind fun x S1 => ((evalP b).1 η S1).bind fun y S2 => (ofO (cmpD o x y S2) S2).bind fun k S3 =>
      if k = true then ((evalP c).1 η S3).bind fun z S4 => (ofO (cmpD o' y z S4) S4).bind fun k' S5 => .ok (.d (.bl k')) S5 else .ok (.d (.bl false)) S3
  | .isn neg a => mkV fun η S => ((evalP a).1 η S).bind fun x S1 => match x with
    | .d .non => .ok (.d (.bl (!neg))) S1
    | _ => .ok (.d (.bl neg)) S1
  | .isb b a => mkV fun η S => ((evalP a).1 η S).bind fun x S1 => match x with
    | .d (.bl k) => .ok (.d (.bl (k == b))) S1
    | _ => .stk
  | .and es => evalAnd es
  | .or es => evalOr es
  | .ifx c a b => mkV fun η S => ((evalP c).2 η S).bind fun k S1 => if k = true then (evalP a).1 η S1 else (evalP b).1 η S1
  | .call f es => mkV fun η S => (evalEs es η S).bind fun ws S1 => C.call f ws S1
  | .callv i es => mkV fun η S => (ofO (getV η i) S).bind fun w S => match w with
    | .d (.fn f) => match C.P.fns[f]? with
      | some fd => (evalEs es η S).bind fun ws S1 => if ws.length = fd.np then C.call f ws S1 else .stk
      | none => .stk
    | _ => .stk
  | .meth e m es => mkV fun η S => ((evalP e).1 η S).bind fun o S1 => match (clsOf o S1).bind fun c => C.P.cls[c]? with
    | some k => match lookN m k.meths with
      | some f => (evalEs es η S1).bind fun ws S2 => C.call f (o :: ws) S2
      | none => .stk
    | none => .stk
  | .mk c es => mkV fun η S => (evalEs es η S).bind fun ws S1 => mkW C c ws S1
  | .bi b es => mkV fun η S => (evalEs es η S).bind fun ws S1 => (ofO (biD b ws S1) S1).bind fun x S2 => .ok (.d x) S2
  | .bm e m es => mkV fun η S => ((evalP e).1 η S).bind fun o S1 => if recvOk m o S1 = true then (evalEs es η S1).bind fun ws S2 => bmD m o ws S2 else .stk
  | .fld e f => mkV fun η S => ((evalP e).1 η S).bind fun o S1 => ofO (fldD C.P o f S1) S1
  | .ix a b => mkV fun η S => ((evalP a).1 η S).bind fun x S1 => ((evalP b).1 η S1).bind fun y S2 => ofO (ixD x y S2) S2
  | .sl a lo hi => mkV fun η S => ((evalP a).1 η S).bind fun x S1 => (evalO lo η S1).bind fun l S2 => (evalO hi η S2).bind fun h S3 => (ofO (slD x l h S3) S3).bind fun z S4 => .ok (.d z) S4
  | .lc e own t it ifs => mkV fun η S => noExc ((evalI it η S).bind fun src S1 => (lcSrc (setT t) (evalC ifs) (evalP e).1 (wipeE η own) src S1).bind fun xs S2 => .ok (.d (.lst xs)) S2)
  | .isi e ts => mkV fun η S => ((evalP e).1 η S).bind fun x S1 => (ofO (tyName x S1) S1).bind fun t S2 => if tyOk0 C.P t = true then .ok (.d (.bl (ts.any fun u => tyIs C.P t u))) S2 else .stk
  | .thaw e => mkV fun η S => ((evalP e).1 η S).bind fun w S1 => thawD w S1
termination_by structural x => x
def evalEs : IEs → Env → Store → Res (List W)
  | .nil => fun _ S => .ok [] S
  | .cons e es => fun η S => ((evalP e).1 η S).bind fun w S1 => (evalEs es η S1).bind fun ws S2 => .ok (w :: ws) S2
termination_by structural x => x
def evalAnd : IEs → VT
  | .nil => (fun _ _ => .stk, fun _ _ => .stk)
  | .cons e .nil => evalP e
  | .cons e (.cons e2 r) => (fun η S => ((evalP e).1 η S).bind fun x S1 => (ofO (truthy x S1) S1).bind fun k S2 => if k = true then (evalAnd (.cons e2 r)).1 η S2 else .ok x S2,
      fun η S => ((evalP e).2 η S).bind fun k S1 => if k = true then (evalAnd (.cons e2 r)).2 η S1 else .ok false S1)
termination_by structural x => x
def evalOr : IEs → VT
  | .nil => (fun _ _ => .stk, fun _ _ => .stk)
  | .cons e .nil => evalP e
  | .cons e (.cons e2 r) => (fun η S => ((evalP e).1 η S).bind fun x S1 => (ofO (truthy x S1) S1).bind fun k S2 => if k = true then .ok x S2 else (evalOr (.cons e2 r)).1 η S2,
      fun η S => ((evalP e).2 η S).bind fun k S1 => if k = true then .ok true S1 else (evalOr (.cons e2 r)).2 η S1)
termination_by structural x => x
def evalO : IO → Env → Store → Res (Option Int)
  | .no => fun _ S => .ok none S
  | .yes e => fun η S => ((evalP e).1 η S).bind fun w S1 => match w with
    | .d (.int i) => .ok (some i) S1
    | _ => .stk
termination_by structural x => x
/-- a comprehension's test -/
def evalC : IO → Env → Store → Res Bool
  | .no => fun _ S => .ok true S
  | .yes e => (evalP e).2
termination_by structural x => x
def evalI : II → Env → Store → Res Src
  | .seq e => fun η S => ((evalP e).1 η S).bind fun w S1 => match w with
    | .loc l => match S1[l]? with
      | some (.lst ys) => .ok (.loc l ys.length) S1
      | _ => .stk
    | .d (.str s) => .ok (.fix (s.map fun c => .str [c])) S1
    | w => match seqOf w S1 with
      | some (_, xs) => .ok (.fix xs) S1
      | none => .stk
  | .rng a => fun η S => ((evalP a).1 η S).bind fun w S1 => match w with
    | .d (.int n) => if -lineR ≤ n ∧ n < lineR then .ok (.fix ((List.range n.toNat).map fun i => .int (i : Nat))) S1 else .stk
    | _ => .stk
  | .rng2 a b => fun η S => ((evalP a).1 η S).bind fun w S1 => ((evalP b).1 η S1).bind fun u S2 => match w, u with
    | .d (.int i), .d (.int n) => if (-lineR ≤ i ∧ i < lineR) ∧ -lineR ≤ n ∧ n < lineR then .ok (.fix ((List.range (n - i).toNat).map fun (k : Nat) => .int (i + k))) S2 else .stk
    | _, _ => .stk
  | .enum e => fun η S => ((evalP e).1 η S).bind fun w S1 => match w with
    | .loc _ => .stk
    | w => match seqOf w S1 with
      | some (_, xs) => .ok (.fix (xs.mapIdx fun i x => .tup [.int (i : Nat), x])) S1
      | none => .stk
  | .zip a b => fun η S => ((evalP a).1 η S).bind fun w S1 => ((evalP b).1 η S1).bind fun u S2 => match w, u with
    | .d x, .d y => match seqOf (.d x) S2, seqOf (.d y) S2 with
      | some (_, xs), some (_, ys) => .ok (.fix ((xs.zip ys).map fun p => .tup [p.1, p.2])) S2
      | _, _ => .stk
    | _, _ => .stk
termination_by structural x => x
/-- target = value -/
def setT : IT → W → Env → Store → Res Env
  | .nm i => fun w η S => if i < η.length then .ok (η.set i (some w)) S else .stk
  | .tup ts => fun w η S => match seqOf w S with
    | some (.tup, xs) => setTs ts xs η S
    | _ => .stk
  | .sub o i => fun w η S => ((evalP o).1 η S).bind fun x S1 => ((evalP i).1 η S1).bind fun k S2 => (setSub x k w S2).bind fun _ S3 => .ok η S3
  | .fld o f => fun w η S => ((evalP o).1 η S).bind fun x S1 => (setFld C.P x f w S1).bind fun _ S2 => .ok η S2
termination_by structural x => x
def setTs : ITs → List D → Env → Store → Res Env
  | .nil => fun xs η S => match xs with
    | [] => .ok η S
    | _ => .stk
  | .cons t ts => fun xs η S => match xs with
    | x :: xs => (setT t (.d x) η S).bind fun η1 S1 => setTs ts xs η1 S1
    | [] => .stk
termination_by structural x => x
end
def evalE (e : IE) : Env → Store → Res W := (evalP C e).1
def evalT (e : IE) : Env → Store → Res Bool := (evalP C e).2

/-- names get values -/
def setNs : List Nat → List W → Env → Option Env
  | [], [], η => some η
  | i :: is, w :: ws, η => if i < η.length then setNs is ws (η.set i (some w)) else none
  | _, _, _ => none

def fieldsOf : List Nat → List W → Option (List (Nat × D))
  | [], [] => some []
  | f :: fs, .d x :: ws => (fieldsOf fs ws).map ((f, x) :: ·)
  | _, _ => none

mutual
def execS : IS → Env → Store → Res Flow
  | .expr e, η, S => (evalE C e η S).bind fun _ S1 => .ok (.nx η) S1
  | .ret e, η, S => (evalE C e η S).bind fun w S1 => .ok (.ret w) S1
  | .retN, _, S => .ok (.ret (.d .non)) S
  | .pass, η, S => .ok (.nx η) S
  | .brk, η, S => .ok (.brk η) S
  | .cont, η, S => .ok (.cont η) S
  | .asg t e, η, S => (evalE C e η S).bind fun w S1 => (noExc (setT C t w η S1)).bind fun η1 S2 => .ok (.nx η1) S2
  | .par is es, η, S => (evalEs C es η S).bind fun ws S1 => (ofO (setNs is ws η) S1).bind fun η1 S2 => .ok (.nx η1) S2
  | .aug i o e, η, S => (ofO (getV η i) S).bind fun x S => (evalE C e η S).bind fun y S1 => (ofO (binD o x y S1) S1).bind fun z S2 =>
      if i < η.length then .ok (.nx (η.set i (some (.d z)))) S2 else .stk
  | .ife c a b, η, S => (evalT C c η S).bind fun k S1 => if k = true then execSs a η S1 else execSs b η S1
  | .for_ t it b, η, S => (evalI C it η S).bind fun src S1 => forSrc (setT C t) (execSs b) src η S1
  | .whl c b, η, S => whileL (evalT C c) (execSs b) C.fu η S
  | .raise c es, η, S => (evalEs C es η S).bind fun ws S1 => match C.P.cls[c]? with
    | some k => match k.exc with
      | some fs => match fieldsOf fs ws with
        | some ds => .exc c ds S1
        | none => .stk
      | none => .stk
    | none => .stk
  | .tryx body c i suite, η, S => match execSs body η S with
    | .exc c' fs S1 => if tyIs C.P (.cls c') (.cls c) then
        (execSs suite (η.set i (some (.exn c' fs))) S1).bind fun f S2 => match f with
          | .nx η1 => .ok (.nx (η1.set i none)) S2
          | .brk η1 => .ok (.brk (η1.set i none)) S2
          | .cont η1 => .ok (.cont (η1.set i none)) S2
          | .ret w => .ok (.ret w) S2
      else .exc c' fs S1
    | r => r
termination_by structural x => x
def execSs : ISs → Env → Store → Res Flow
  | .nil, η, S => .ok (.nx η) S
  | .cons s ss, η, S => (execS s η S).bind fun f S1 => match f with
    | .nx η1 => execSs ss η1 S1
    | f => .ok f S1
termination_by structural x => x
end
end

/-! ### calls -/
def freeze (n : Nat) (w : W) (S : Store) : Option W :=
  match w with
  | .d x => some (.d x)
  | .loc l => if l < n then some (.loc l) else (S[l]?.bind cellD).map .d
  | _ => none
/-- a def's end: what it made for itself is let go -/
def close (keep : Bool) (n : Nat) (w : W) (S : Store) : Res W :=
  if keep then .ok w S else if belows n (S.take n) ∧ n ≤ S.length then (match freeze n w S with
    | some v => .ok v (S.take n)
    | none => .stk) else .stk
def finish (keep : Bool) (n : Nat) (r : Res Flow) : Res W :=
  match r with
  | .ok (.nx _) S => close keep n (.d .non) S
  | .ok (.ret w) S => close keep n w S
  | .exc c fs S => if keep then .exc c fs S else if belows n (S.take n) ∧ n ≤ S.length then .exc c fs (S.take n) else .stk
  | _ => .stk
def startE (nl : Nat) (ws : List W) : Env := ws.map some ++ List.replicate (nl - ws.length) none
def callF (P : Prog) (fu : Nat) : Nat → Nat → List W → Store → Res W
  | 0, _, _, _ => .stk
  | n + 1, f, ws, S => match P.fns[f]? with
    | some fd => if ws.length = fd.np then finish fd.keep S.length (execSs ⟨callF P fu n, P, fu⟩ fd.body (startE fd.N.length ws) S) else .stk
    | none => .stk
end RI
/-! RI3: what stands in the heap for data, cells, names; how it is kept. -/
namespace RI
open PySem PySem.Spec PyProof.Rows L2
abbrev St := L2.St

structure Wd where
  K : PySem.W.Frag
  ca : Nat → Addr
  fa : Nat → Addr
  nm : Nat → Str
/-- where the cells stand, and what is held aside: it is never looked at, nor changed -/
structure Rho where
  l : List Addr
  F : Addr → Prop
def Rho.app (ρ : Rho) (t : List Addr) : Rho := ⟨ρ.l ++ t, ρ.F⟩
@[simp] theorem Rho.app_nil (ρ : Rho) : ρ.app [] = ρ := by cases ρ; simp [Rho.app]
@[simp] theorem Rho.app_app (ρ : Rho) (t u : List Addr) : (ρ.app t).app u = ρ.app (t ++ u) := by simp [Rho.app]
/-- the error that is handled here -/
abbrev Ex := Option (Addr × Value × Option Addr)

/-- the script's list -/
def ScrL (K : PySem.W.Frag) (H : Hp) (a : Addr) (xs : List V) : Prop :=
  (∃ o, H a = some (.frz o (.lst xs))) ∨
    ∃ (o : Obj) (its : Array Value) (n : Nat), K.lookup a = some o ∧ o.cls = .type "list" ∧ o.dict = none ∧ o.data = .seq its n ∧ its.size ≤ sizeLine ∧ Vals xs its.toList
theorem ScrL.sq {K : PySem.W.Frag} {H : Hp} {a : Addr} {xs : List V} (h : ScrL K H a xs) : SqL K H a xs := by
  rcases h with ⟨o, h⟩ | h
  · exact .inl (.inr ⟨o, h⟩)
  · exact .inr h
abbrev Str' (s : List Nat) : Str := ⟨s.toArray⟩

mutual
inductive RelD (G : Wd) (L : Addr → Prop) (H : Hp) : D → V → Prop where
  | non : RelD G L H .non .non
  | bl (b : Bool) : RelD G L H (.bl b) (.bl b)
  | int (i : Int) : RelD G L H (.int i) (.int i)
  | str (s : List Nat) : RelD G L H (.str s) (.str (Str' s))
  | tup {a : Addr} {vs : List V} {xs : List D} : SqT G.K H a vs → RelDs G L H xs vs → RelD G L H (.tup xs) (.ref a)
  | lst {a : Addr} {vs : List V} {xs : List D} : H a = some (.lst vs) → ¬ L a → RelDs G L H xs vs → RelD G L H (.lst xs) (.ref a)
  | dic {a : Addr} {kvs : List (D × D)} {ks : List (Key × V)} : H a = some (.dK ks) → ¬ L a → RelD G L H (.dic kvs) (.ref a)
  | obj {a dx : Addr} {c : Nat} {fs : List (Nat × D)} {vs : List (Str × V)} : H a = some (.ins (G.ca c) dx vs) → ¬ L a → RelFs G L H fs vs → RelD G L H (.obj c fs) (.ref a)
  | fn (f : Nat) : RelD G L H (.fn f) (.ref (G.fa f))
inductive RelDs (G : Wd) (L : Addr → Prop) (H : Hp) : List D → List V → Prop where
  | nil : RelDs G L H [] []
  | cons {x : D} {v : V} {xs : List D} {vs : List V} : RelD G L H x v → RelDs G L H xs vs → RelDs G L H (x :: xs) (v :: vs)
inductive RelFs (G : Wd) (L : Addr → Prop) (H : Hp) : List (Nat × D) → List (Str × V) → Prop where
  | nil : RelFs G L H [] []
  | cons {f : Nat} {x : D} {v : V} {fs : List (Nat × D)} {vs : List (Str × V)} : RelD G L H x v → RelFs G L H fs vs → RelFs G L H ((f, x) :: fs) ((G.nm f, v) :: vs)
end

inductive RelW (G : Wd) (ex : Ex) (L : Addr → Prop) (ρ : Rho) (H : Hp) : W → V → Prop where
  | d {x : D} {v : V} : RelD G L H x v → RelW G ex L ρ H (.d x) v
  | loc {l : Nat} {a : Addr} : ρ.l[l]? = some a → RelW G ex L ρ H (.loc l) (.ref a)
  | scr {ns : List Int} {a : Addr} : ScrL G.K H a (ns.map V.int) → RelW G ex L ρ H (.scr ns) (.ref a)
  | exn {c : Nat} {fs : List (Nat × D)} {a : Addr} {dx : Option Addr} {vs : List (Str × V)} : ex = some (a, .ref (G.ca c), dx) →
      (∀ d, dx = some d → H d = some (.xd vs) ∧ ¬ L d) → (dx = none → vs = []) → RelFs G L H fs vs → RelW G ex L ρ H (.exn c fs) (.ref a)
inductive RelWs (G : Wd) (ex : Ex) (L : Addr → Prop) (ρ : Rho) (H : Hp) : List W → List V → Prop where
  | nil : RelWs G ex L ρ H [] []
  | cons {w : W} {v : V} {ws : List W} {vs : List V} : RelW G ex L ρ H w v → RelWs G ex L ρ H ws vs → RelWs G ex L ρ H (w :: ws) (v :: vs)
inductive RelFw (G : Wd) (L : Addr → Prop) (ρ : Rho) (H : Hp) : List (Nat × W) → List (Str × V) → Prop where
  | nil : RelFw G L ρ H [] []
  | cons {f : Nat} {w : W} {v : V} {fs : List (Nat × W)} {vs : List (Str × V)} : RelW G none L ρ H w v → RelFw G L ρ H fs vs → RelFw G L ρ H ((f, w) :: fs) ((G.nm f, v) :: vs)

inductive RelC (G : Wd) (L : Addr → Prop) (ρ : Rho) (H : Hp) : Cell → Addr → Prop where
  | lst {a : Addr} {xs : List D} {vs : List V} : H a = some (.lst vs) → RelDs G L H xs vs → RelC G L ρ H (.lst xs) a
  | lsw {a : Addr} {ws : List W} {vs : List V} : H a = some (.lst vs) → RelWs G none L ρ H ws vs → RelC G L ρ H (.lsw ws) a
  | dct {a : Addr} {kvs : List (D × D)} {ks : List (Key × V)} : H a = some (.dK ks) → False → RelC G L ρ H (.dct kvs) a
  | ins {a dx : Addr} {c : Nat} {fs : List (Nat × W)} {vs : List (Str × V)} : H a = some (.ins (G.ca c) dx vs) → RelFw G L ρ H fs vs → RelC G L ρ H (.ins c fs) a
  | dead {a : Addr} : RelC G L ρ H .dead a

def alive : Cell → Bool
  | .dead => false
  | _ => true
def Live (ρ : Rho) (S : Store) (a : Addr) : Prop := ρ.F a ∨ ∃ (l : Nat) (c : Cell), S[l]? = some c ∧ alive c = true ∧ ρ.l[l]? = some a

structure RelS (G : Wd) (ρ : Rho) (S : Store) (H : Hp) : Prop where
  len : ρ.l.length = S.length
  nd : ρ.l.Nodup
  cell : ∀ (l : Nat) (c : Cell) (a : Addr), S[l]? = some c → ρ.l[l]? = some a → RelC G (Live ρ S) ρ H c a
  dom : ∀ a ∈ ρ.l, H a ≠ none
  res : ∀ a, ρ.F a → H a ≠ none ∧ a ∉ ρ.l

structure RelAll (G : Wd) (ex : Ex) (ρ : Rho) (η : Env) (S : Store) (σ : St) (H : Hp) : Prop where
  st : RelS G ρ S H
  len : η.length = σ.length
  slot : ∀ (i : Nat) (w : W), η[i]? = some (some w) → ∃ v, σ[i]? = some (some v) ∧ RelW G ex (Live ρ S) ρ H w v

def Solid : HO → Prop
  | .tup _ => True
  | .frz _ _ => True
  | _ => False

structure Ext (ρ : Rho) (S : Store) (H : Hp) (ρ' : Rho) (S' : Store) (H' : Hp) : Prop where
  pre : ∃ t, ρ' = ρ.app t
  keep : ∀ a o, H a = some o → (Live ρ S a → Solid o) → H' a = some o
  new : ∀ a, Live ρ' S' a → Live ρ S a ∨ H a = none
  dom : ∀ a, H a ≠ none → H' a ≠ none
  res : ∀ a, ρ.F a → H a ≠ none → H' a = H a

section
variable {G : Wd} {ex : Ex} {ρ ρ1 ρ2 : Rho} {S S1 S2 : Store} {H H1 H2 : Hp} {L L' : Addr → Prop}
theorem Ext.refl : Ext ρ S H ρ S H := ⟨⟨[], by simp⟩, fun _ _ e _ => e, fun _ h => .inl h, fun _ h => h, fun _ _ _ => rfl⟩
theorem Ext.trans (a : Ext ρ S H ρ1 S1 H1) (b : Ext ρ1 S1 H1 ρ2 S2 H2) : Ext ρ S H ρ2 S2 H2 := by
  obtain ⟨t, e⟩ := a.pre
  obtain ⟨u, e'⟩ := b.pre
  refine ⟨⟨t ++ u, by rw [e', e, Rho.app_app]⟩, fun x o h hl => ?_, fun x h => ?_, fun x h => b.dom x (a.dom x h), fun x f h => (b.res x (by rw [e]; exact f) (a.dom x h)).trans (a.res x f h)⟩
  · refine b.keep x o (a.keep x o h hl) fun h1 => ?_
    rcases a.new x h1 with z | z
    · exact hl z
    · rw [z] at h; cases h
  · rcases b.new x h with z | z
    · exact a.new x z
    · right
      cases e : H x with
      | none => rfl
      | some o => exact absurd z (a.dom x (by rw [e]; simp))

/-- how data are kept: K the heap, L the cells -/
structure Kp (L : Addr → Prop) (H : Hp) (L' : Addr → Prop) (H' : Hp) : Prop where
  keep : ∀ a o, H a = some o → (L a → Solid o) → H' a = some o
  new : ∀ a, L' a → L a ∨ H a = none
theorem Ext.kp (a : Ext ρ S H ρ1 S1 H1) : Kp (Live ρ S) H (Live ρ1 S1) H1 := ⟨a.keep, a.new⟩
theorem Kp.out (k : Kp L H L' H1) {a : Addr} {o : HO} (h : H a = some o) (n : ¬ L a) : ¬ L' a := fun q => by
  rcases k.new a q with z | z
  · exact n z
  · rw [z] at h; cases h
theorem Kp.sqT (k : Kp L H L' H1) {K : PySem.W.Frag} {a : Addr} {vs : List V} (h : SqT K H a vs) : SqT K H1 a vs := by
  rcases h with (h | ⟨o, h⟩) | h
  · exact .inl (.inl (k.keep a _ h fun _ => trivial))
  · exact .inl (.inr ⟨o, k.keep a _ h fun _ => trivial⟩)
  · exact .inr h
mutual
theorem RelD.mono (k : Kp L H L' H1) : ∀ {x : D} {v : V}, RelD G L H x v → RelD G L' H1 x v
  | _, _, .non => .non
  | _, _, .bl b => .bl b
  | _, _, .int i => .int i
  | _, _, .str s => .str s
  | _, _, .tup h hs => .tup (k.sqT h) (RelDs.mono k hs)
  | _, _, .lst h n hs => .lst (k.keep _ _ h fun z => absurd z n) (k.out h n) (RelDs.mono k hs)
  | _, _, .dic h n => .dic (k.keep _ _ h fun z => absurd z n) (k.out h n)
  | _, _, .obj h n hs => .obj (k.keep _ _ h fun z => absurd z n) (k.out h n) (RelFs.mono k hs)
  | _, _, .fn f => .fn f
theorem RelDs.mono (k : Kp L H L' H1) : ∀ {xs : List D} {vs : List V}, RelDs G L H xs vs → RelDs G L' H1 xs vs
  | _, _, .nil => .nil
  | _, _, .cons h hs => .cons (RelD.mono k h) (RelDs.mono k hs)
theorem RelFs.mono (k : Kp L H L' H1) : ∀ {fs : List (Nat × D)} {vs : List (Str × V)}, RelFs G L H fs vs → RelFs G L' H1 fs vs
  | _, _, .nil => .nil
  | _, _, .cons h hs => .cons (RelD.mono k h) (RelFs.mono k hs)
end
theorem pre_get {ρ : Rho} {t : List Addr} {l : Nat} {a : Addr} (h : ρ.l[l]? = some a) : (ρ.app t).l[l]? = some a := by
  show (ρ.l ++ t)[l]? = some a
  rw [List.getElem?_append_left (List.getElem?_eq_some_iff.mp h).1]
  exact h
theorem RelW.mono (k : Kp L H L' H1) (p : ∃ t, ρ1 = ρ.app t) {w : W} {v : V} (h : RelW G ex L ρ H w v) : RelW G ex L' ρ1 H1 w v := by
  obtain ⟨t, rfl⟩ := p
  cases h with
  | d h => exact .d (h.mono k)
  | loc h => exact .loc (pre_get h)
  | scr h =>
    refine .scr ?_
    rcases h with ⟨o, h⟩ | h
    · exact .inl ⟨o, k.keep _ _ h fun _ => trivial⟩
    · exact .inr h
  | exn h1 h2 h3 h4 => exact .exn h1 (fun d e => ⟨k.keep _ _ (h2 d e).1 fun z => absurd z (h2 d e).2, k.out (h2 d e).1 (h2 d e).2⟩) h3 (h4.mono k)
theorem RelWs.mono (k : Kp L H L' H1) (p : ∃ t, ρ1 = ρ.app t) : ∀ {ws : List W} {vs : List V}, RelWs G ex L ρ H ws vs → RelWs G ex L' ρ1 H1 ws vs
  | _, _, .nil => .nil
  | _, _, .cons h hs => .cons (h.mono k p) (RelWs.mono k p hs)
theorem RelFw.mono (k : Kp L H L' H1) (p : ∃ t, ρ1 = ρ.app t) : ∀ {ws : List (Nat × W)} {vs : List (Str × V)}, RelFw G L ρ H ws vs → RelFw G L' ρ1 H1 ws vs
  | _, _, .nil => .nil
  | _, _, .cons h hs => .cons (h.mono k p) (RelFw.mono k p hs)
theorem RelAll.mono {η : Env} {σ : St} (R : RelAll G ex ρ η S σ H) (e : Ext ρ S H ρ1 S1 H1) (R1 : RelS G ρ1 S1 H1) : RelAll G ex ρ1 η S1 σ H1 :=
  ⟨R1, R.len, fun i w h => let ⟨v, e1, r⟩ := R.slot i w h; ⟨v, e1, r.mono e.kp e.pre⟩⟩
end

/-! ### what is wanted of a run -/
/-- how a raised error lies -/
def RelX (G : Wd) (L : Addr → Prop) (H : Hp) (fs : List (Nat × D)) (dx : Option Addr) : Prop :=
  (fs = [] ∧ dx = none) ∨ ∃ d vs, dx = some d ∧ H d = some (.xd vs) ∧ ¬ L d ∧ RelFs G L H fs vs
def Sat {α : Type} (G : Wd) (Wx : XK) (ρ : Rho) (S : Store) (H : Hp) (r : Res α) (P : α → Rho → Store → Hp → Prop) : Prop :=
  match r with
  | .ok a S' => ∀ ρ' H', Ext ρ S H ρ' S' H' → RelS G ρ' S' H' → P a ρ' S' H'
  | .exc c fs S' => ∀ dx ρ' H', Ext ρ S H ρ' S' H' → RelS G ρ' S' H' → RelX G (Live ρ' S') H' fs dx → Wx (.ref (G.ca c)) dx H'
  | .stk => False
section
variable {G : Wd} {ex : Ex} {Wx : XK} {ρ ρ1 : Rho} {S S1 : Store} {H H1 : Hp} {α β : Type} {r : Res α} {f : α → Store → Res β} {P : α → Rho → Store → Hp → Prop} {Q : β → Rho → Store → Hp → Prop}
theorem Sat.from (e : Ext ρ S H ρ1 S1 H1) (h : Sat G Wx ρ S H r P) : Sat G Wx ρ1 S1 H1 r P := by
  cases r with
  | ok a S' => exact fun ρ' H' e' R => h ρ' H' (e.trans e') R
  | exc c fs S' => exact fun dx ρ' H' e' R x => h dx ρ' H' (e.trans e') R x
  | stk => exact h
theorem Sat.bind (h : Sat G Wx ρ S H (r.bind f) Q) : Sat G Wx ρ S H r fun a ρ1 S1 H1 => Ext ρ S H ρ1 S1 H1 ∧ RelS G ρ1 S1 H1 ∧ Sat G Wx ρ1 S1 H1 (f a S1) Q := by
  cases r with
  | ok a S' => exact fun ρ' H' e R => ⟨e, R, Sat.from e h⟩
  | exc c fs S' => exact h
  | stk => exact h
--theorem Sat.imp (h : Sat G Wx ρ S H r P) (k : ∀ a ρ' S' H', Ext ρ S H ρ' S' H' → RelS G ρ' S' H' → P a ρ' S' H' → ∀ {Q' : α → Rho → Store → Hp → Prop}, (P a ρ' S' H' → Q' a ρ' S' H') → Q' a ρ' S' H') : True := trivial
theorem Sat.mono {P' : α → Rho → Store → Hp → Prop} (h : Sat G Wx ρ S H r P) (k : ∀ a ρ' S' H', Ext ρ S H ρ' S' H' → RelS G ρ' S' H' → P a ρ' S' H' → P' a ρ' S' H') : Sat G Wx ρ S H r P' := by
  cases r with
  | ok a S' => exact fun ρ' H' e R => k _ _ _ _ e R (h ρ' H' e R)
  | exc c fs S' => exact h
  | stk => exact h
/-- something known is there -/
theorem Sat.now {a : α} (R : RelS G ρ S H) (h : Sat G Wx ρ S H (.ok a S) P) : P a ρ S H := h ρ H .refl R
theorem Sat.ofO_bind {o : Option α} {S0 : Store} (h : Sat G Wx ρ S H ((ofO o S0).bind f) Q) : ∃ a, o = some a ∧ Sat G Wx ρ S H (f a S0) Q := by
  cases o with
  | some a => exact ⟨a, rfl, h⟩
  | none => exact h.elim
theorem Sat.ofO {o : Option α} {S0 : Store} (h : Sat G Wx ρ S H (ofO o S0) P) : ∃ a, o = some a ∧ Sat G Wx ρ S H (.ok a S0) P := by
  cases o with
  | some a => exact ⟨a, rfl, h⟩
  | none => exact h.elim
end

/-- an expression's reading by what the evaluator says of it -/
def RdE (G : Wd) (ex : Ex) (Wx : L2.WX) (m : Env → Store → Res W) : TE := fun σ H Q => ∃ ρ η S, RelAll G ex ρ η S σ H ∧
  Sat G (fun c d H => Wx c d σ H) ρ S H (m η S) fun w ρ' S' H' => ∀ v, RelW G ex (Live ρ' S') ρ' H' w v → Q v H'
def RdT (G : Wd) (ex : Ex) (Wx : L2.WX) (m : Env → Store → Res Bool) : TT := fun σ H Q => ∃ ρ η S, RelAll G ex ρ η S σ H ∧
  Sat G (fun c d H => Wx c d σ H) ρ S H (m η S) fun b ρ' S' H' => Q b H'
def RdEs (G : Wd) (ex : Ex) (Wx : L2.WX) (m : Env → Store → Res (List W)) : TA := fun σ H Q => ∃ ρ η S, RelAll G ex ρ η S σ H ∧
  Sat G (fun c d H => Wx c d σ H) ρ S H (m η S) fun ws ρ' S' H' => ∀ vs, RelWs G ex (Live ρ' S') ρ' H' ws vs → Q vs H'

section
variable {G : Wd} {ex : Ex} {Wx : L2.WX} {ρ : Rho} {S : Store} {H : Hp} {σ : St} {η : Env} {α : Type} {P : α → Rho → Store → Hp → Prop}
/-- first a value, then the rest -/
theorem rd1 {m : Env → Store → Res W} {f : W → Store → Res α} {Q : VK} (R : RelAll G ex ρ η S σ H) (h : Sat G (fun c d H => Wx c d σ H) ρ S H ((m η S).bind f) P)
    (k : ∀ w v ρ1 S1 H1, RelAll G ex ρ1 η S1 σ H1 → Ext ρ S H ρ1 S1 H1 → RelW G ex (Live ρ1 S1) ρ1 H1 w v → Sat G (fun c d H => Wx c d σ H) ρ1 S1 H1 (f w S1) P → Q v H1) : RdE G ex Wx m σ H Q :=
  ⟨ρ, η, S, R, h.bind.mono fun w ρ1 S1 H1 _ _ ⟨e, R1, h1⟩ v r => k w v ρ1 S1 H1 (R.mono e R1) e r h1⟩
theorem rd1s {m : Env → Store → Res (List W)} {f : List W → Store → Res α} {Q : List V → Hp → Prop} (R : RelAll G ex ρ η S σ H) (h : Sat G (fun c d H => Wx c d σ H) ρ S H ((m η S).bind f) P)
    (k : ∀ ws vs ρ1 S1 H1, RelAll G ex ρ1 η S1 σ H1 → Ext ρ S H ρ1 S1 H1 → RelWs G ex (Live ρ1 S1) ρ1 H1 ws vs → Sat G (fun c d H => Wx c d σ H) ρ1 S1 H1 (f ws S1) P → Q vs H1) : RdEs G ex Wx m σ H Q :=
  ⟨ρ, η, S, R, h.bind.mono fun w ρ1 S1 H1 _ _ ⟨e, R1, h1⟩ v r => k w v ρ1 S1 H1 (R.mono e R1) e r h1⟩
theorem rd1t {m : Env → Store → Res Bool} {f : Bool → Store → Res α} {Q : Bool → Hp → Prop} (R : RelAll G ex ρ η S σ H) (h : Sat G (fun c d H => Wx c d σ H) ρ S H ((m η S).bind f) P)
    (k : ∀ b ρ1 S1 H1, RelAll G ex ρ1 η S1 σ H1 → Ext ρ S H ρ1 S1 H1 → Sat G (fun c d H => Wx c d σ H) ρ1 S1 H1 (f b S1) P → Q b H1) : RdT G ex Wx m σ H Q :=
  ⟨ρ, η, S, R, h.bind.mono fun w ρ1 S1 H1 _ _ ⟨e, R1, h1⟩ => k w ρ1 S1 H1 (R.mono e R1) e h1⟩
end
theorem PE.of {X : Cx} {e : Expr} {t t' : TE} (h : PE X e t) (k : ∀ σ H Q, t' σ H Q → t σ H Q) : PE X e t' := ⟨fun pins s σ H Q I q => h.run pins s σ H Q I (k σ H Q q)⟩
theorem PT.of {X : Cx} {e : Expr} {t t' : TT} (h : PT X e t) (k : ∀ σ H Q, t' σ H Q → t σ H Q) : PT X e t' := ⟨fun pins s σ H Q I q => h.run pins s σ H Q I (k σ H Q q)⟩
theorem PA.of {X : Cx} {e : List Expr} {t t' : TA} (h : PA X e t) (k : ∀ σ H Q, t' σ H Q → t σ H Q) : PA X e t' := ⟨fun pos pins s σ H Q I q => h.run pos pins s σ H Q I (k σ H Q q)⟩
theorem PS.of {X : Cx} {e : Stmt} {t t' : TS} (h : PS X e t) (k : ∀ D σ H, t' D σ H → t D σ H) : PS X e t' := ⟨fun pins s σ H D I q => h.run pins s σ H D I (k D σ H q)⟩
theorem PSs.of {X : Cx} {e : List Stmt} {t t' : TS} (h : PSs X e t) (k : ∀ D σ H, t' D σ H → t D σ H) : PSs X e t' := ⟨fun pins s σ H D I q => h.run pins s σ H D I (k D σ H q)⟩
end RI
/-! RI4: steps of the heap under the relations. -/
namespace RI
open PySem PySem.Spec PyProof.Rows L2

section
variable {G : Wd} {ex : Ex} {ρ ρ1 ρ2 : Rho} {S S1 S2 : Store} {H H1 H2 : Hp} {L L' : Addr → Prop} {p a : Addr} {o : HO} {c c' : Cell} {l : Nat}

theorem upd_some {b : Addr} {q : HO} (hp : H p = none) (h : H b = some q) : upd H p o b = some q := by
  rw [upd_ne (ne_of_none h hp)]; exact h
theorem upd_dom {b : Addr} (h : H b ≠ none) : upd H p o b ≠ none := by
  by_cases e : b = p
  · subst e; rw [upd_same]; simp
  · rw [upd_ne e]; exact h
theorem Ext.newObj (hp : H p = none) : Ext ρ S H ρ S (upd H p o) :=
  ⟨⟨[], by simp⟩, fun b q h _ => upd_some hp h, fun _ h => .inl h, fun b h => upd_dom h, fun b _ h => upd_ne (fun e => h (e ▸ hp))⟩

theorem RelC.keep (e : ∀ q, H a = some q → H1 a = some q) (k : Kp L H L' H1) (pr : ∃ t, ρ1 = ρ.app t) (h : RelC G L ρ H c a) : RelC G L' ρ1 H1 c a := by
  cases h with
  | lst h hs => exact .lst (e _ h) (hs.mono k)
  | lsw h hs => exact .lsw (e _ h) (hs.mono k pr)
  | dct h f => exact f.elim
  | ins h hs => exact .ins (e _ h) (hs.mono k pr)
  | dead => exact .dead
theorem RelS.newObj (R : RelS G ρ S H) (hp : H p = none) : RelS G ρ S (upd H p o) :=
  ⟨R.len, R.nd, fun l c a h1 h2 => (R.cell l c a h1 h2).keep (fun q h => upd_some hp h) (Ext.newObj (ρ := ρ) (S := S) hp).kp ⟨[], by simp⟩, fun a h => upd_dom (R.dom a h), fun a f => ⟨upd_dom (R.res a f).1, (R.res a f).2⟩⟩
theorem RelC.obj (h : RelC G L ρ H c a) (al : alive c = true) : ∃ q, H a = some q ∧ ¬ Solid q := by
  cases h with
  | lst h hs => exact ⟨_, h, fun z => z⟩
  | lsw h hs => exact ⟨_, h, fun z => z⟩
  | dct h f => exact f.elim
  | ins h hs => exact ⟨_, h, fun z => z⟩
  | dead => cases al
theorem get_lt {α : Type} {xs : List α} {i : Nat} {x : α} (h : xs[i]? = some x) : i < xs.length := (List.getElem?_eq_some_iff.mp h).1
theorem nd_inj {xs : List Addr} (n : xs.Nodup) {i j : Nat} {x : Addr} (a : xs[i]? = some x) (b : xs[j]? = some x) : i = j := by
  obtain ⟨h1, e1⟩ := List.getElem?_eq_some_iff.mp a
  obtain ⟨h2, e2⟩ := List.getElem?_eq_some_iff.mp b
  exact (List.getElem_inj n).mp (e1.trans e2.symm)
theorem RelS.addr (R : RelS G ρ S H) (h : S[l]? = some c) : ∃ a, ρ.l[l]? = some a := by
  have := get_lt h
  rw [← R.len] at this
  exact ⟨_, List.getElem?_eq_getElem this⟩
theorem RelS.live (R : RelS G ρ S H) (h : S[l]? = some c) (al : alive c = true) (ha : ρ.l[l]? = some a) : Live ρ S a := .inr ⟨l, c, h, al, ha⟩
theorem RelS.liveDom (R : RelS G ρ S H) (h : Live ρ S a) : H a ≠ none := by
  rcases h with f | ⟨l, c, _, _, e⟩
  · exact (R.res a f).1
  · exact R.dom a (List.mem_of_getElem? e)
theorem RelS.fresh (R : RelS G ρ S H) (hp : H p = none) : ¬ Live ρ S p := fun h => R.liveDom h hp
theorem RelS.notin (R : RelS G ρ S H) (hp : H p = none) : p ∉ ρ.l := fun h => R.dom p h hp
/-- the cell l is written -/
theorem live_set (R : RelS G ρ S H) (h : S[l]? = some c) (al : alive c = true) : ∀ b, Live ρ (S.set l c') b → Live ρ S b := by
  rintro b (f | ⟨m, d, h1, h2, h3⟩)
  · exact .inl f
  by_cases e : m = l
  · subst e; exact .inr ⟨m, c, h, al, h3⟩
  · rw [List.getElem?_set_ne (Ne.symm e)] at h1
    exact .inr ⟨m, d, h1, h2, h3⟩
theorem Ext.setCell (R : RelS G ρ S H) (h : S[l]? = some c) (al : alive c = true) (ha : ρ.l[l]? = some a) : Ext ρ S H ρ (S.set l c') (upd H a o) := by
  refine ⟨⟨[], by simp⟩, fun b q hb hs => ?_, fun b hb => .inl (live_set R h al b hb), fun b hb => upd_dom hb, fun b f _ => upd_ne (fun e => (R.res b f).2 (e ▸ List.mem_of_getElem? ha))⟩
  by_cases e : b = a
  · subst e
    obtain ⟨q', e', n⟩ := (R.cell l c b h ha).obj al
    rw [hb] at e'; cases e'
    exact absurd (hs (R.live h al ha)) n
  · rw [upd_ne e]; exact hb
theorem RelS.setCell (R : RelS G ρ S H) (h : S[l]? = some c) (al : alive c = true) (ha : ρ.l[l]? = some a)
    (hc : RelC G (Live ρ (S.set l c')) ρ (upd H a o) c' a) : RelS G ρ (S.set l c') (upd H a o) := by
  refine ⟨by rw [List.length_set]; exact R.len, R.nd, fun m d b h1 h2 => ?_, fun b hb => upd_dom (R.dom b hb), fun b f => ⟨upd_dom (R.res b f).1, (R.res b f).2⟩⟩
  by_cases e : m = l
  · subst e
    rw [List.getElem?_set_self (get_lt h)] at h1
    cases h1
    rw [ha] at h2; cases h2
    exact hc
  · rw [List.getElem?_set_ne (Ne.symm e)] at h1
    have nb : b ≠ a := fun z => e (nd_inj R.nd (z ▸ h2) ha)
    exact (R.cell m d b h1 h2).keep (fun q z => by rw [upd_ne nb]; exact z) (Ext.setCell (c' := c') (o := o) R h al ha).kp ⟨[], by simp⟩
/-- the cell l is let go: what stands there never changes any more -/
theorem Ext.kill (R : RelS G ρ S H) (h : S[l]? = some c) (al : alive c = true) : Ext ρ S H ρ (S.set l .dead) H :=
  ⟨⟨[], by simp⟩, fun b q hb _ => hb, fun b hb => .inl (live_set R h al b hb), fun b hb => hb, fun _ _ _ => rfl⟩
theorem RelS.kill (R : RelS G ρ S H) (h : S[l]? = some c) (al : alive c = true) : RelS G ρ (S.set l .dead) H := by
  refine ⟨by rw [List.length_set]; exact R.len, R.nd, fun m d b h1 h2 => ?_, R.dom, R.res⟩
  by_cases e : m = l
  · subst e
    rw [List.getElem?_set_self (get_lt h)] at h1
    cases h1; exact .dead
  · rw [List.getElem?_set_ne (Ne.symm e)] at h1
    exact (R.cell m d b h1 h2).keep (fun q z => z) (Ext.kill R h al).kp ⟨[], by simp⟩
theorem not_live_kill (R : RelS G ρ S H) (ha : ρ.l[l]? = some a) (hl : l < S.length) : ¬ Live ρ (S.set l .dead) a := by
  rintro (f | ⟨m, d, h1, h2, h3⟩)
  · exact (R.res a f).2 (List.mem_of_getElem? ha)
  have e := nd_inj R.nd h3 ha
  subst e
  rw [List.getElem?_set_self hl] at h1
  cases h1; cases h2
/-- a new cell -/
theorem live_app (R : RelS G ρ S H) : ∀ b, Live (ρ.app [p]) (S ++ [c]) b → Live ρ S b ∨ b = p := by
  rintro b (f | ⟨m, d, h1, h2, h3⟩)
  · exact .inl (.inl f)
  replace h3 : (ρ.l ++ [p])[m]? = some b := h3
  by_cases e : m < S.length
  · rw [List.getElem?_append_left e] at h1
    rw [List.getElem?_append_left (by rw [R.len]; exact e)] at h3
    exact .inl (.inr ⟨m, d, h1, h2, h3⟩)
  · have hm : m = S.length := by
      have := get_lt h1
      rw [List.length_append, List.length_singleton] at this
      omega
    subst hm
    rw [← R.len, List.getElem?_concat_length] at h3
    cases h3
    exact .inr rfl
theorem Ext.newCell (R : RelS G ρ S H) (hp : H p = none) : Ext ρ S H (ρ.app [p]) (S ++ [c]) (upd H p o) :=
  ⟨⟨[p], rfl⟩, fun b q h _ => upd_some hp h, fun b h => by
    rcases live_app R b h with z | z
    · exact .inl z
    · exact .inr (z ▸ hp), fun b h => upd_dom h, fun b _ h => upd_ne (fun e => h (e ▸ hp))⟩
theorem RelS.newCell (R : RelS G ρ S H) (hp : H p = none) (hc : RelC G (Live (ρ.app [p]) (S ++ [c])) (ρ.app [p]) (upd H p o) c p) : RelS G (ρ.app [p]) (S ++ [c]) (upd H p o) := by
  refine ⟨by simp [Rho.app, R.len], ?_, fun m d b h1 h2 => ?_, fun b hb => ?_, fun b f => ⟨upd_dom (R.res b f).1, fun hm => ?_⟩⟩
  · show (ρ.l ++ [p]).Nodup
    rw [List.nodup_append]
    refine ⟨R.nd, by simp, fun x hx y hy e => ?_⟩
    simp at hy
    rw [e, hy] at hx
    exact R.notin hp hx
  · replace h2 : (ρ.l ++ [p])[m]? = some b := h2
    by_cases e : m < S.length
    · rw [List.getElem?_append_left e] at h1
      rw [List.getElem?_append_left (by rw [R.len]; exact e)] at h2
      exact (R.cell m d b h1 h2).keep (fun q z => upd_some hp z) (Ext.newCell (c := c) (o := o) R hp).kp ⟨[p], rfl⟩
    · have hm : m = S.length := by
        have := get_lt h1
        rw [List.length_append, List.length_singleton] at this
        omega
      subst hm
      rw [List.getElem?_concat_length] at h1
      cases h1
      rw [← R.len, List.getElem?_concat_length] at h2
      cases h2
      exact hc
  · replace hb : b ∈ ρ.l ++ [p] := hb
    rw [List.mem_append] at hb
    rcases hb with z | z
    · exact upd_dom (R.dom b z)
    · simp at z
      subst z
      rw [upd_same]; simp
  · replace hm : b ∈ ρ.l ++ [p] := hm
    rw [List.mem_append] at hm
    rcases hm with z | z
    · exact (R.res b f).2 z
    · simp at z
      subst z
      exact (R.res b f).1 hp

/-! ### names -/
theorem get_set_some {α : Type} {xs : List (Option α)} {i j : Nat} {x y : α} (h : (xs.set i (some x))[j]? = some (some y)) : (j = i ∧ y = x) ∨ (j ≠ i ∧ xs[j]? = some (some y)) := by
  by_cases e : j = i
  · subst e
    have hl : j < xs.length := by
      have := get_lt h
      rwa [List.length_set] at this
    rw [List.getElem?_set_self hl] at h
    cases h; exact .inl ⟨rfl, rfl⟩
  · rw [List.getElem?_set_ne (Ne.symm e)] at h
    exact .inr ⟨e, h⟩
theorem RelAll.set {η : Env} {σ : St} {i : Nat} {w : W} {v : V} (R : RelAll G ex ρ η S σ H) (r : RelW G ex (Live ρ S) ρ H w v) (hi : i < η.length) : RelAll G ex ρ (η.set i (some w)) S (σ.set i (some v)) H := by
  refine ⟨R.st, by rw [List.length_set, List.length_set]; exact R.len, fun j u h => ?_⟩
  rcases get_set_some h with ⟨e, e2⟩ | ⟨e, e2⟩
  · subst e; subst e2
    exact ⟨v, by rw [List.getElem?_set_self (by rw [← R.len]; exact hi)], r⟩
  · obtain ⟨x, e3, r3⟩ := R.slot j u e2
    exact ⟨x, by rw [List.getElem?_set_ne (Ne.symm e)]; exact e3, r3⟩
theorem RelAll.unset {η : Env} {σ : St} {i : Nat} (R : RelAll G ex ρ η S σ H) : RelAll G ex ρ (η.set i none) S (σ.set i none) H := by
  refine ⟨R.st, by rw [List.length_set, List.length_set]; exact R.len, fun j u h => ?_⟩
  by_cases e : j = i
  · subst e
    have hl : j < η.length := by
      have := get_lt h
      rwa [List.length_set] at this
    rw [List.getElem?_set_self hl] at h
    cases h
  · rw [List.getElem?_set_ne (Ne.symm e)] at h
    obtain ⟨x, e3, r3⟩ := R.slot j u h
    exact ⟨x, by rw [List.getElem?_set_ne (Ne.symm e)]; exact e3, r3⟩
theorem RelAll.get {η : Env} {σ : St} {i : Nat} {w : W} (R : RelAll G ex ρ η S σ H) (h : getV η i = some w) : ∃ v, σ[i]? = some (some v) ∧ RelW G ex (Live ρ S) ρ H w v := by
  refine R.slot i w ?_
  unfold getV at h
  split at h
  · next e => cases h; exact e
  · cases h
theorem RelAll.wipe {η : Env} {σ : St} (R : RelAll G ex ρ η S σ H) : ∀ vs : List Nat, RelAll G ex ρ (wipeE η vs) S (wipe σ vs) H
  | [] => R
  | v :: vs => (RelAll.wipe R vs).unset
theorem RelDs.length {L : Addr → Prop} : ∀ {xs : List D} {vs : List V}, RelDs G L H xs vs → xs.length = vs.length
  | _, _, .nil => rfl
  | _, _, .cons _ h => by simp [RelDs.length h]
theorem RelDs.append {L : Addr → Prop} : ∀ {xs ys : List D} {vs us : List V}, RelDs G L H xs vs → RelDs G L H ys us → RelDs G L H (xs ++ ys) (vs ++ us)
  | _, _, _, _, .nil, h => h
  | _, _, _, _, .cons a h, h2 => .cons a (RelDs.append h h2)
theorem RelDs.get {L : Addr → Prop} : ∀ {xs : List D} {vs : List V} {i : Nat} {x : D}, RelDs G L H xs vs → xs[i]? = some x → ∃ v, vs[i]? = some v ∧ RelD G L H x v
  | _, _, _, _, .nil, e => by simp at e
  | _, _, 0, _, .cons a h, e => by simp at e; subst e; exact ⟨_, rfl, a⟩
  | _, _, i + 1, x, .cons a h, e => by
    obtain ⟨v, h1, h2⟩ := RelDs.get (i := i) (x := x) h (by simpa using e)
    exact ⟨v, by simpa using h1, h2⟩
theorem RelDs.take {L : Addr → Prop} : ∀ {xs : List D} {vs : List V} (n : Nat), RelDs G L H xs vs → RelDs G L H (xs.take n) (vs.take n)
  | _, _, 0, _ => .nil
  | _, _, _ + 1, .nil => .nil
  | _, _, n + 1, .cons a h => .cons a (RelDs.take n h)
theorem RelDs.drop {L : Addr → Prop} : ∀ {xs : List D} {vs : List V} (n : Nat), RelDs G L H xs vs → RelDs G L H (xs.drop n) (vs.drop n)
  | _, _, 0, h => h
  | _, _, _ + 1, .nil => .nil
  | _, _, n + 1, .cons _ h => RelDs.drop n h
theorem RelDs.set {L : Addr → Prop} {x : D} {v : V} (r : RelD G L H x v) : ∀ {xs : List D} {vs : List V} (i : Nat), RelDs G L H xs vs → RelDs G L H (xs.set i x) (vs.set i v)
  | _, _, _, .nil => .nil
  | _, _, 0, .cons _ h => .cons r h
  | _, _, i + 1, .cons a h => .cons a (RelDs.set r i h)
theorem RelDs.erase {L : Addr → Prop} : ∀ {xs : List D} {vs : List V} (i : Nat), RelDs G L H xs vs → RelDs G L H (xs.eraseIdx i) (vs.eraseIdx i)
  | _, _, _, .nil => .nil
  | _, _, 0, .cons _ h => h
  | _, _, i + 1, .cons a h => .cons a (RelDs.erase i h)
theorem RelDs.rep {L : Addr → Prop} {xs : List D} {vs : List V} (h : RelDs G L H xs vs) : ∀ n : Nat, RelDs G L H (List.replicate n xs).flatten (List.replicate n vs).flatten
  | 0 => .nil
  | n + 1 => by
    simp only [List.replicate_succ, List.flatten_cons]
    exact h.append (RelDs.rep h n)
theorem RelDs.ints {L : Addr → Prop} : ∀ (ns : List Int), RelDs G L H (ns.map D.int) (ns.map V.int)
  | [] => .nil
  | n :: ns => .cons (.int n) (RelDs.ints ns)
theorem RelDs.cut {L : Addr → Prop} {xs : List D} {vs : List V} (h : RelDs G L H xs vs) (lo hi : Option Int) : RelDs G L H (cut xs lo hi) (cutV vs lo hi) := by
  unfold RI.cut L2.cutV
  rw [h.length]
  exact (h.drop _).take _
theorem RelWs.length {L : Addr → Prop} : ∀ {xs : List W} {vs : List V}, RelWs G ex L ρ H xs vs → xs.length = vs.length
  | _, _, .nil => rfl
  | _, _, .cons _ h => by simp [RelWs.length h]
theorem RelWs.get {L : Addr → Prop} : ∀ {xs : List W} {vs : List V} {i : Nat} {x : W}, RelWs G ex L ρ H xs vs → xs[i]? = some x → ∃ v, vs[i]? = some v ∧ RelW G ex L ρ H x v
  | _, _, _, _, .nil, e => by simp at e
  | _, _, 0, _, .cons a h, e => by simp at e; subst e; exact ⟨_, rfl, a⟩
  | _, _, i + 1, x, .cons a h, e => by
    obtain ⟨v, h1, h2⟩ := RelWs.get (i := i) (x := x) h (by simpa using e)
    exact ⟨v, by simpa using h1, h2⟩
theorem RelWs.set {L : Addr → Prop} {x : W} {v : V} (r : RelW G ex L ρ H x v) : ∀ {xs : List W} {vs : List V} (i : Nat), RelWs G ex L ρ H xs vs → RelWs G ex L ρ H (xs.set i x) (vs.set i v)
  | _, _, _, .nil => .nil
  | _, _, 0, .cons _ h => .cons r h
  | _, _, i + 1, .cons a h => .cons a (RelWs.set r i h)
end

/-! ### data out of cells -/
section
variable {G : Wd} {ex : Ex} {ρ : Rho} {S : Store} {H : Hp} {w : W} {v : V} {x : D}
theorem RelFw.ds {L : Addr → Prop} : ∀ {fs : List (Nat × W)} {ds : List (Nat × D)} {vs : List (Str × V)}, RelFw G L ρ H fs vs → wsD fs = some ds → RelFs G L H ds vs
  | [], ds, _, .nil, h => by simp only [wsD] at h; cases h; exact .nil
  | (f, .d x) :: r, ds, _, .cons a hs, h => by
    simp only [wsD] at h
    cases e : wsD r with
    | none => rw [e] at h; cases h
    | some d2 =>
      rw [e] at h; cases h
      cases a with
      | d a => exact .cons a (RelFw.ds hs e)
  | (f, .loc l) :: r, ds, _, .cons a hs, h => by simp [wsD] at h
  | (f, .scr l) :: r, ds, _, .cons a hs, h => by simp [wsD] at h
  | (f, .exn c l) :: r, ds, _, .cons a hs, h => by simp [wsD] at h
theorem RelC.data {L L' : Addr → Prop} {c : Cell} {a : Addr} (k : Kp L H L' H) (h : RelC G L ρ H c a) (e : cellD c = some x) (n : ¬ L' a) : RelD G L' H x (.ref a) := by
  cases h with
  | lst h hs => simp only [cellD] at e; cases e; exact .lst h n (hs.mono k)
  | lsw h hs => simp [cellD] at e
  | dct h f => exact f.elim
  | ins h hs =>
    simp only [cellD, Option.map_eq_some_iff] at e
    obtain ⟨ds, e1, e2⟩ := e
    subst e2
    exact .obj h n ((hs.ds e1).mono k)
  | dead => simp [cellD] at e
theorem alive_of {c : Cell} (e : cellD c = some x) : alive c = true := by
  cases c <;> simp [cellD, alive] at *
/-- the heap stays, the cells of what became data are let go -/
theorem toD_ok {S' : Store} (R : RelS G ρ S H) (r : RelW G ex (Live ρ S) ρ H w v) (h : toD w S = .ok x S') : Ext ρ S H ρ S' H ∧ RelS G ρ S' H ∧ RelD G (Live ρ S') H x v := by
  cases w with
  | d y =>
    simp only [toD] at h; cases h
    cases r with
    | d r => exact ⟨.refl, R, r⟩
  | loc l =>
    simp only [toD] at h
    split at h
    · next y e =>
      cases h
      cases r with
      | loc ra =>
        cases hc : S[l]? with
        | none => rw [hc] at e; simp at e
        | some c =>
          rw [hc] at e
          simp only [Option.bind_some] at e
          have al := alive_of e
          refine ⟨.kill R hc al, R.kill hc al, ?_⟩
          exact (R.cell l c _ hc ra).data (Ext.kill R hc al).kp e (not_live_kill R ra (get_lt hc))
    · cases h
  | scr ns => simp [toD] at h
  | exn c fs => simp [toD] at h
theorem toD_cases (w : W) (S : Store) : (∃ x S', toD w S = .ok x S') ∨ toD w S = .stk := by
  cases w with
  | d y => exact .inl ⟨_, _, rfl⟩
  | loc l =>
    simp only [toD]
    split
    · exact .inl ⟨_, _, rfl⟩
    · exact .inr rfl
  | scr ns => exact .inr rfl
  | exn c fs => exact .inr rfl
theorem toDs_ok : ∀ {ws : List W} {vs : List V} {xs : List D} {S S' : Store}, RelS G ρ S H → RelWs G ex (Live ρ S) ρ H ws vs → toDs ws S = .ok xs S' → Ext ρ S H ρ S' H ∧ RelS G ρ S' H ∧ RelDs G (Live ρ S') H xs vs
  | [], _, xs, S, S', R, .nil, h => by
    simp only [toDs] at h; cases h
    exact ⟨.refl, R, .nil⟩
  | w :: ws, _, xs, S, S', R, .cons r rs, h => by
    simp only [toDs] at h
    rcases toD_cases w S with ⟨x, S1, e⟩ | e
    · rw [e] at h
      simp only [Res.bind_ok] at h
      obtain ⟨E1, R1, r1⟩ := toD_ok R r e
      cases e2 : toDs ws S1 with
      | ok ys S2 =>
        rw [e2] at h
        simp only [Res.bind_ok] at h
        cases h
        obtain ⟨E2, R2, r2⟩ := toDs_ok R1 (rs.mono E1.kp E1.pre) e2
        exact ⟨E1.trans E2, R2, .cons (r1.mono E2.kp) r2⟩
      | exc c fs S2 => rw [e2] at h; cases h
      | stk => rw [e2] at h; cases h
    · rw [e] at h; cases h
theorem toDs_exc : ∀ {ws : List W} {S : Store} {c : Nat} {fs : List (Nat × D)} {S' : Store}, toDs ws S ≠ .exc c fs S'
  | [], S, c, fs, S' => by simp [toDs]
  | w :: ws, S, c, fs, S' => by
    simp only [toDs]
    rcases toD_cases w S with ⟨x, S1, e⟩ | e
    · rw [e]
      simp only [Res.bind_ok]
      cases e2 : toDs ws S1 with
      | ok ys S2 => simp
      | exc c2 fs2 S2 => exact absurd e2 toDs_exc
      | stk => simp
    · rw [e]; simp
end
section
variable {G : Wd} {ex : Ex} {Wx : XK} {ρ : Rho} {S : Store} {H : Hp} {α : Type} {Q : α → Rho → Store → Hp → Prop}
theorem Sat.toD_bind {w : W} {v : V} {f : D → Store → Res α} (R : RelS G ρ S H) (r : RelW G ex (Live ρ S) ρ H w v) (h : Sat G Wx ρ S H ((toD w S).bind f) Q) :
    ∃ x S1, Ext ρ S H ρ S1 H ∧ RelS G ρ S1 H ∧ RelD G (Live ρ S1) H x v ∧ Sat G Wx ρ S1 H (f x S1) Q := by
  rcases toD_cases w S with ⟨x, S1, e⟩ | e
  · obtain ⟨E1, R1, r1⟩ := toD_ok R r e
    rw [e] at h
    exact ⟨x, S1, E1, R1, r1, h.from E1⟩
  · rw [e] at h; exact h.elim
theorem Sat.toDs_bind {ws : List W} {vs : List V} {f : List D → Store → Res α} (R : RelS G ρ S H) (r : RelWs G ex (Live ρ S) ρ H ws vs) (h : Sat G Wx ρ S H ((toDs ws S).bind f) Q) :
    ∃ xs S1, Ext ρ S H ρ S1 H ∧ RelS G ρ S1 H ∧ RelDs G (Live ρ S1) H xs vs ∧ Sat G Wx ρ S1 H (f xs S1) Q := by
  cases e : toDs ws S with
  | ok xs S1 =>
    obtain ⟨E1, R1, r1⟩ := toDs_ok R r e
    rw [e] at h
    exact ⟨xs, S1, E1, R1, r1, h.from E1⟩
  | exc c fs S' => exact absurd e toDs_exc
  | stk => rw [e] at h; exact h.elim
end
end RI
/-! RI5: the operations, by the rules of the hand layer. -/
namespace RI
open PySem PySem.Spec PyProof.Rows L2

theorem line_eq : line = sizeLine := rfl
theorem str_len (s : List Nat) : (Str' s).length = s.length := by show s.toArray.size = s.length; simp
theorem str_app (s t : List Nat) : Str' s ++ Str' t = Str' (s ++ t) := by
  show (⟨s.toArray ++ t.toArray⟩ : Str) = ⟨(s ++ t).toArray⟩
  simp
theorem str_inj {s t : List Nat} (h : Str' s = Str' t) : s = t := by
  have e : (Str' s).cps.toList = (Str' t).cps.toList := by rw [h]
  simpa using e

section
variable {G : Wd} {ex : Ex}
/-- data come out of a two-place operation -/
def rD2 (G : Wd) (ex : Ex) (f : W → W → Store → Option D) : R2 := fun x y H Q => ∃ ρ S a b z, RelS G ρ S H ∧ RelW G ex (Live ρ S) ρ H a x ∧ RelW G ex (Live ρ S) ρ H b y ∧ f a b S = some z ∧
  ∀ v H', Ext ρ S H ρ S H' → RelS G ρ S H' → RelD G (Live ρ S) H' z v → Q v H'
def rB2 (G : Wd) (ex : Ex) (f : W → W → Store → Option Bool) : R2 := fun x y H Q => ∃ ρ S a b z, RelS G ρ S H ∧ RelW G ex (Live ρ S) ρ H a x ∧ RelW G ex (Live ρ S) ρ H b y ∧ f a b S = some z ∧ Q (.bl z) H

variable {ρ : Rho} {S : Store} {H : Hp} {L : Addr → Prop} {w : W} {v : V}
theorem RelD.int_inv {i : Int} (h : RelD G L H (.int i) v) : v = .int i := by cases h; rfl
theorem RelD.bl_inv {i : Bool} (h : RelD G L H (.bl i) v) : v = .bl i := by cases h; rfl
theorem RelD.str_inv {i : List Nat} (h : RelD G L H (.str i) v) : v = .str (Str' i) := by cases h; rfl
theorem RelD.non_inv (h : RelD G L H .non v) : v = .non := by cases h; rfl
theorem RelW.d_inv {x : D} (h : RelW G ex L ρ H (.d x) v) : RelD G L H x v := by cases h; assumption
theorem RelD.tup_inv {xs : List D} (h : RelD G L H (.tup xs) v) : ∃ a vs, v = .ref a ∧ SqT G.K H a vs ∧ RelDs G L H xs vs := by cases h; exact ⟨_, _, rfl, ‹_›, ‹_›⟩
theorem RelD.lst_inv {xs : List D} (h : RelD G L H (.lst xs) v) : ∃ a vs, v = .ref a ∧ H a = some (.lst vs) ∧ ¬ L a ∧ RelDs G L H xs vs := by cases h; exact ⟨_, _, rfl, ‹_›, ‹_›, ‹_›⟩
/-- a list -/
theorem RelW.lstOf {xs : List D} (R : RelS G ρ S H) (h : RelW G ex (Live ρ S) ρ H w v) (e : lstOf w S = some xs) : ∃ a vs, v = .ref a ∧ H a = some (.lst vs) ∧ RelDs G (Live ρ S) H xs vs := by
  cases w with
  | d x =>
    cases x <;> simp only [RI.lstOf] at e <;> try cases e
    obtain ⟨a, vs, e1, e2, _, e3⟩ := h.d_inv.lst_inv
    exact ⟨a, vs, e1, e2, e3⟩
  | loc l =>
    simp only [RI.lstOf] at e
    split at e
    · next ys e1 =>
      cases e
      cases h with
      | loc ha =>
        cases R.cell l _ _ e1 ha with
        | lst h1 h2 => exact ⟨_, _, rfl, h1, h2⟩
    · cases e
  | scr ns => simp [RI.lstOf] at e
  | exn c fs => simp [RI.lstOf] at e
/-- a sequence, to be read -/
theorem RelW.seqOf {k : SK} {xs : List D} (R : RelS G ρ S H) (h : RelW G ex (Live ρ S) ρ H w v) (e : seqOf w S = some (k, xs)) :
    ∃ a vs, v = .ref a ∧ ((k = .tup ∧ SqT G.K H a vs) ∨ (k = .lst ∧ SqL G.K H a vs)) ∧ RelDs G (Live ρ S) H xs vs := by
  cases w with
  | d x =>
    cases x <;> simp only [RI.seqOf] at e <;> try cases e
    · obtain ⟨a, vs, e1, e2, e3⟩ := h.d_inv.tup_inv
      exact ⟨a, vs, e1, .inl ⟨rfl, e2⟩, e3⟩
    · obtain ⟨a, vs, e1, e2, _, e3⟩ := h.d_inv.lst_inv
      exact ⟨a, vs, e1, .inr ⟨rfl, SqL.of e2⟩, e3⟩
  | loc l =>
    simp only [RI.seqOf] at e
    split at e
    · next ys e1 =>
      cases e
      cases h with
      | loc ha =>
        cases R.cell l _ _ e1 ha with
        | lst h1 h2 => exact ⟨_, _, rfl, .inr ⟨rfl, SqL.of h1⟩, h2⟩
    · cases e
  | scr ns =>
    simp only [RI.seqOf] at e
    cases e
    cases h with
    | scr h => exact ⟨_, _, rfl, .inr ⟨rfl, h.sq⟩, RelDs.ints ns⟩
  | exn c fs => simp [RI.seqOf] at e
/-- a new tuple, a new list -/
theorem RelD.newTup {p : Addr} {xs : List D} {vs : List V} (R : RelS G ρ S H) (hp : H p = none) (h : RelDs G (Live ρ S) H xs vs) : RelD G (Live ρ S) (upd H p (.tup vs)) (.tup xs) (.ref p) :=
  .tup (SqT.of upd_same) (h.mono (Ext.newObj (ρ := ρ) (S := S) hp).kp)
theorem RelD.newLst {p : Addr} {xs : List D} {vs : List V} (R : RelS G ρ S H) (hp : H p = none) (h : RelDs G (Live ρ S) H xs vs) : RelD G (Live ρ S) (upd H p (.lst vs)) (.lst xs) (.ref p) :=
  .lst upd_same (R.fresh hp) (h.mono (Ext.newObj (ρ := ρ) (S := S) hp).kp)


theorem RelDs.flat {L : Addr → Prop} {x : D} {v : V} (h : RelD G L H x v) (f : flatD x = true) : flatV v = true ∧ ∀ {y : D} {u : V}, RelD G L H y u → flatD y = true → eqV u v = eqF y x := by
  cases h <;> simp only [flatD] at f <;> try cases f
  all_goals refine ⟨rfl, fun {y u} hy fy => ?_⟩
  all_goals cases hy <;> simp only [flatD] at fy <;> try cases fy
  all_goals try rfl
  all_goals simp only [eqV, eqF]
  all_goals rw [Bool.eq_iff_iff]
  all_goals simp only [beq_iff_eq]
  all_goals exact ⟨fun q => str_inj q, fun q => by rw [q]⟩
theorem RelDs.allFlat {L : Addr → Prop} : ∀ {xs : List D} {vs : List V}, RelDs G L H xs vs → xs.all flatD = true → vs.all flatV = true
  | _, _, .nil, _ => rfl
  | _, _, .cons a h, f => by
    simp only [List.all_cons, Bool.and_eq_true] at f ⊢
    exact ⟨(RelDs.flat a f.1).1, RelDs.allFlat h f.2⟩
theorem RelDs.anyEq {L : Addr → Prop} {x : D} {v : V} (r : RelD G L H x v) (fx : flatD x = true) : ∀ {xs : List D} {vs : List V}, RelDs G L H xs vs → xs.all flatD = true → inV v vs = xs.any fun y => eqF y x
  | _, _, .nil, _ => rfl
  | _, _, .cons a h, f => by
    simp only [List.all_cons, Bool.and_eq_true] at f
    show (eqV _ v || inV v _) = _
    rw [(RelDs.flat r fx).2 a f.1, RelDs.anyEq r fx h f.2]
    rfl
mutual
theorem RelD.dp {L : Addr → Prop} : ∀ {x : D} {v : V} {p : PyData}, RelD G L H x v → toPD x = some p → Dp G.K H v p
  | _, _, _, .non, e => by simp only [toPD] at e; cases e; exact .non
  | _, _, _, .bl b, e => by simp only [toPD] at e; cases e; exact .bl b
  | _, _, _, .int i, e => by simp only [toPD] at e; cases e; exact .int i
  | _, _, _, .str s, e => by simp only [toPD] at e; cases e; exact .str _
  | _, _, _, .tup h hs, e => by
    simp only [toPD, Option.map_eq_some_iff] at e
    obtain ⟨ds, e1, e2⟩ := e
    subst e2
    exact .tup h (RelDs.dp hs e1)
  | _, _, _, .lst h _ hs, e => by
    simp only [toPD, Option.map_eq_some_iff] at e
    obtain ⟨ds, e1, e2⟩ := e
    subst e2
    exact .lst (SqL.of h) (RelDs.dp hs e1)
  | _, _, _, .dic _ _, e => by simp [toPD] at e
  | _, _, _, .obj _ _ _, e => by simp [toPD] at e
  | _, _, _, .fn _, e => by simp [toPD] at e
theorem RelDs.dp {L : Addr → Prop} : ∀ {xs : List D} {vs : List V} {ps : List PyData}, RelDs G L H xs vs → toPDs xs = some ps → DpAll G.K H vs ps
  | _, _, _, .nil, e => by simp only [toPDs] at e; cases e; exact .nil
  | _, _, _, .cons a h, e => by
    simp only [toPDs] at e
    split at e
    · next p ps e1 e2 =>
      cases e
      exact .cons (RelD.dp a e1) (RelDs.dp h e2)
    · cases e
end

variable {X : Cx} {a b : W} {z : D} {o : BOp}
abbrev BOp.op : BOp → Operator
  | .add => .Add | .sub => .Sub | .mul => .Mult | .fdiv => .FloorDiv | .mod => .Mod | .pow => .Pow
theorem add_str (s t : List Nat) : (V.str (Str' s ++ Str' t)) = V.str (Str' (s ++ t)) := by rw [str_app]
theorem or_add (hK : X.K = G.K) : OpR X (binaryOp .Add) (rD2 G ex addD) := by
  rintro pins s σ H x y v u Q I rx ry ⟨ρ, S, a, b, z, R, ra, rb, e, k⟩
  unfold addD at e
  split at e
  · cases e
    have q1 := ra.d_inv.int_inv; have q2 := rb.d_inv.int_inv
    subst q1; subst q2
    exact op_add pins s σ H _ _ v u Q I rx ry ⟨_, _, rfl, rfl, k _ H .refl R (.int _)⟩
  · next s1 t1 =>
    split at e
    · next hl =>
      cases e
      have q1 := ra.d_inv.str_inv; have q2 := rb.d_inv.str_inv
      subst q1; subst q2
      refine op_add_str pins s σ H _ _ v u Q I rx ry ⟨_, _, rfl, rfl, by rw [str_len, str_len]; exact hl, ?_⟩
      rw [str_app]
      exact k _ H .refl R (.str _)
    · cases e
  · next s1 t1 =>
    split at e
    · next hl =>
      cases e
      obtain ⟨p, vs, rfl, h1, r1⟩ := ra.d_inv.tup_inv
      obtain ⟨q, us, rfl, h2, r2⟩ := rb.d_inv.tup_inv
      refine op_catA pins s σ H _ _ v u Q I rx ry ⟨_, _, vs, us, rfl, rfl, hK ▸ h1, hK ▸ h2, by rw [← r1.length, ← r2.length]; exact hl, fun e1 => ?_, fun _ e2 => ?_, fun e1 e2 p hp => ?_⟩
      · subst e1
        cases r1
        exact k _ H .refl R (by simpa using rb.d_inv)
      · subst e2
        cases r2
        exact k _ H .refl R (by simpa using ra.d_inv)
      · exact k _ _ (.newObj hp) (R.newObj hp) (.newTup R hp (r1.append r2))
    · cases e
  · split at e
    · next s1 t1 e1 e2 =>
      split at e
      · next hl =>
        cases e
        obtain ⟨p, vs, rfl, h1, r1⟩ := ra.lstOf R e1
        obtain ⟨q, us, rfl, h2, r2⟩ := rb.lstOf R e2
        refine op_cat pins s σ H _ _ v u Q I rx ry ⟨_, _, vs, us, rfl, rfl, h1, h2, by rw [← r1.length, ← r2.length]; exact hl, fun p hp => ?_⟩
        exact k _ _ (.newObj hp) (R.newObj hp) (.newLst R hp (r1.append r2))
      · cases e
    · cases e
theorem or_bin (hK : X.K = G.K) : OpR X (binaryOp o.op) (rD2 G ex (binD o)) := by
  cases o with
  | add => exact or_add hK
  | sub =>
    rintro pins s σ H x y v u Q I rx ry ⟨ρ, S, a, b, z, R, ra, rb, e, k⟩
    simp only [binD, subD] at e
    split at e
    · cases e
      have q1 := ra.d_inv.int_inv; have q2 := rb.d_inv.int_inv
      subst q1; subst q2
      exact op_sub pins s σ H _ _ v u Q I rx ry ⟨_, _, rfl, rfl, k _ H .refl R (.int _)⟩
    · cases e
  | mul =>
    rintro pins s σ H x y v u Q I rx ry ⟨ρ, S, a, b, z, R, ra, rb, e, k⟩
    simp only [binD] at e
    unfold mulD at e
    split at e
    · next i j =>
      split at e
      · next hb =>
        cases e
        have q1 := ra.d_inv.int_inv; have q2 := rb.d_inv.int_inv
        subst q1; subst q2
        exact op_mulW pins s σ H _ _ v u Q I rx ry ⟨_, _, rfl, rfl, (by unfold CMulW; simpa [bitsOk] using hb), k _ H .refl R (.int _)⟩
      · cases e
    · next s1 j =>
      split at e
      · next hl =>
        cases e
        obtain ⟨p, vs, rfl, h1, r1⟩ := ra.d_inv.tup_inv
        have q2 := rb.d_inv.int_inv
        subst q2
        have hn : vs ≠ [] := fun z => by subst z; cases r1; exact hl.1 rfl
        exact op_repT pins s σ H _ _ v u Q I rx ry ⟨_, _, vs, rfl, rfl, hK ▸ h1, hn, hl.2.1, hl.2.2.1, by rw [← r1.length]; exact hl.2.2.2, fun p hp => k _ _ (.newObj hp) (R.newObj hp) (.newTup R hp (r1.rep _))⟩
      · cases e
    · next j _ _ =>
      split at e
      · next s1 e1 =>
        split at e
        · next hl =>
          cases e
          obtain ⟨p, vs, rfl, h1, r1⟩ := ra.lstOf R e1
          have q2 := rb.d_inv.int_inv
          subst q2
          exact op_rep pins s σ H _ _ v u Q I rx ry ⟨_, _, vs, rfl, rfl, h1, hl.2.1, hl.2.2, by rw [← r1.length]; exact hl.1, fun p hp => k _ _ (.newObj hp) (R.newObj hp) (.newLst R hp (r1.rep _))⟩
        · cases e
      · cases e
    · cases e
  | fdiv =>
    rintro pins s σ H x y v u Q I rx ry ⟨ρ, S, a, b, z, R, ra, rb, e, k⟩
    simp only [binD, fdivD] at e
    split at e
    · next i j =>
      split at e
      · next hj =>
        cases e
        have q1 := ra.d_inv.int_inv; have q2 := rb.d_inv.int_inv
        subst q1; subst q2
        rcases hj with hj | hj
        · refine op_fdivW pins s σ H _ _ v u Q I rx ry ⟨_, _, rfl, rfl, hj, ?_⟩
          have e1 : i.fdiv j = i / j := Int.fdiv_eq_ediv_of_nonneg _ (Int.le_of_lt hj.1)
          show Q (V.int (i / j)) H
          rw [← e1]
          exact k _ H .refl R (.int _)
        · exact op_fdivN pins s σ H _ _ v u Q I rx ry ⟨_, _, rfl, rfl, hj, k _ H .refl R (.int _)⟩
      · cases e
    · cases e
  | mod =>
    rintro pins s σ H x y v u Q I rx ry ⟨ρ, S, a, b, z, R, ra, rb, e, k⟩
    simp only [binD, modD] at e
    split at e
    · next i j =>
      split at e
      · next hj =>
        cases e
        have q1 := ra.d_inv.int_inv; have q2 := rb.d_inv.int_inv
        subst q1; subst q2
        exact op_modN pins s σ H _ _ v u Q I rx ry ⟨_, _, rfl, rfl, hj, k _ H .refl R (.int _)⟩
      · cases e
    · cases e
  | pow =>
    rintro pins s σ H x y v u Q I rx ry ⟨ρ, S, a, b, z, R, ra, rb, e, k⟩
    simp only [binD, powD] at e
    split at e
    · next i j =>
      split at e
      · next hj =>
        cases e
        have q1 := ra.d_inv.int_inv; have q2 := rb.d_inv.int_inv
        subst q1; subst q2
        exact op_pow pins s σ H _ _ v u Q I rx ry ⟨_, _, rfl, rfl, hj, k _ H .refl R (.int _)⟩
      · cases e
    · cases e

/-! ### comparisons -/
abbrev COp.op : COp → CmpOp
  | .eq => .Eq | .ne => .NotEq | .lt => .Lt | .le => .LtE | .gt => .Gt | .ge => .GtE | .inn => .In | .nin => .NotIn
theorem dp_lst {L : Addr → Prop} {p : Addr} {xs : List D} {vs : List V} {d : PyData} (h : H p = some (.lst vs)) (hs : RelDs G L H xs vs) (e : toPD (.lst xs) = some d) : Dp G.K H (.ref p) d := by
  simp only [toPD, Option.map_eq_some_iff] at e
  obtain ⟨ds, e1, e2⟩ := e
  subst e2
  exact .lst (SqL.of h) (hs.dp e1)
theorem pyEq_inv {x y : D} {k : Bool} (e : pyEq x y = some k) : ∃ p q, toPD x = some p ∧ toPD y = some q ∧ SeqAt.shaped p = true ∧ SeqAt.shaped q = true ∧ k = PyData.eqv p q := by
  unfold pyEq at e
  split at e
  · next p q e1 e2 =>
    split at e
    · next h =>
      cases e
      simp only [Bool.and_eq_true] at h
      exact ⟨p, q, e1, e2, h.1, h.2, rfl⟩
    · cases e
  · cases e
/-- the two sides as data -/
theorem eqD_inv {x y : V} {k : Bool} (R : RelS G ρ S H) (ra : RelW G ex (Live ρ S) ρ H a x) (rb : RelW G ex (Live ρ S) ρ H b y) (e : eqD a b S = some k) :
    ∃ p q, Dp G.K H x p ∧ Dp G.K H y q ∧ SeqAt.shaped p = true ∧ SeqAt.shaped q = true ∧ k = PyData.eqv p q := by
  unfold eqD at e
  split at e
  · obtain ⟨p, q, e1, e2, h1, h2, e3⟩ := pyEq_inv e
    exact ⟨p, q, ra.d_inv.dp e1, rb.d_inv.dp e2, h1, h2, e3⟩
  · split at e
    · next s t e1 e2 =>
      obtain ⟨p, q, e3, e4, h1, h2, e5⟩ := pyEq_inv e
      obtain ⟨_, vs, rfl, h3, r3⟩ := ra.lstOf R e1
      obtain ⟨_, us, rfl, h4, r4⟩ := rb.lstOf R e2
      exact ⟨p, q, dp_lst h3 r3 e3, dp_lst h4 r4 e4, h1, h2, e5⟩
    · cases e
theorem or_int {op : CmpOp} {p : Int → Int → Bool} (h : OpR X (compareOp op) (rI0 fun i j => .bl (p i j))) : OpR X (compareOp op) (rB2 G ex (intC p)) := by
  rintro pins s σ H x y v u Q I rx ry ⟨ρ, S, a, b, z, R, ra, rb, e, k⟩
  unfold intC at e
  split at e
  · cases e
    have q1 := ra.d_inv.int_inv; have q2 := rb.d_inv.int_inv
    subst q1; subst q2
    exact h pins s σ H _ _ v u Q I rx ry ⟨_, _, rfl, rfl, k⟩
  · cases e
theorem shaped_tup (ds : List PyData) : SeqAt.shaped (.tuple ds) = SeqAt.shaped (.list ds) := by
  unfold SeqAt.shaped
  simp [PyData.canLay0, PyData.depth]
def rInT (K : PySem.W.Frag) (neg : Bool) : R2 := fun x y H Q => ∃ d ds, Dp K H x d ∧ Dp K H y (.tuple ds) ∧ SeqAt.shaped d = true ∧ SeqAt.shaped (.tuple ds) = true ∧ Q (.bl (if neg then !ds.any fun z => PyData.eqv z d else ds.any fun z => PyData.eqv z d)) H
theorem op_inT {X : Cx} (hu : X.A.units + 65 < cLine) : OpR X (compareOp .In) (rInT X.K false) := by
  intro pins s σ H x y v u Q I rx ry h
  obtain ⟨d, ds, hd, he, sd, se, q⟩ := h
  obtain ⟨as, r1⟩ := Dp.reads I d x v hd rx
  obtain ⟨bs, r2⟩ := Dp.reads I (.tuple ds) y u he ry
  exact SeqAt.in_tuple_reads r2 r1 (SeqAt.canLay_of_shaped se) (SeqAt.canLay_of_shaped sd) (room_in_shaped sd hu) ⟨.bl _, H, I, rfl, q⟩
theorem op_notInT {X : Cx} (hu : X.A.units + 65 < cLine) : OpR X (compareOp .NotIn) (rInT X.K true) := by
  intro pins s σ H x y v u Q I rx ry h
  obtain ⟨d, ds, hd, he, sd, se, q⟩ := h
  obtain ⟨as, r1⟩ := Dp.reads I d x v hd rx
  obtain ⟨bs, r2⟩ := Dp.reads I (.tuple ds) y u he ry
  exact SeqAt.notIn_tuple_reads r2 r1 (SeqAt.canLay_of_shaped se) (SeqAt.canLay_of_shaped sd) (room_in_shaped sd hu) ⟨.bl _, H, I, rfl, q⟩
theorem in_inv {x y : V} {k : Bool} (R : RelS G ρ S H) (ra : RelW G ex (Live ρ S) ρ H a x) (rb : RelW G ex (Live ρ S) ρ H b y) (e : inD a b S = some k) :
    (∃ c t, x = .str (Str' [c]) ∧ y = .str (Str' t) ∧ k = decide (c ∈ t)) ∨
    (∃ p vs, y = .ref p ∧ (SqL G.K H p vs ∨ SqT G.K H p vs) ∧ flatV x = true ∧ vs.all flatV = true ∧ k = inV x vs) ∨
    (∃ d ds, Dp G.K H x d ∧ (Dp G.K H y (.list ds) ∨ Dp G.K H y (.tuple ds)) ∧ SeqAt.shaped d = true ∧ SeqAt.shaped (.list ds) = true ∧ k = ds.any fun z => PyData.eqv z d) := by
  unfold inD at e
  split at e
  · next c t =>
    cases e
    exact .inl ⟨c, t, ra.d_inv.str_inv, rb.d_inv.str_inv, rfl⟩
  · split at e
    · next kd ys e1 =>
      obtain ⟨p, vs, rfl, h1, r1⟩ := rb.seqOf R e1
      unfold pyIn at e
      split at e
      · next hf =>
        cases e
        simp only [Bool.and_eq_true] at hf
        refine .inr (.inl ⟨p, vs, rfl, ?_, (RelDs.flat ra.d_inv hf.1).1, RelDs.allFlat r1 hf.2, (RelDs.anyEq ra.d_inv hf.1 r1 hf.2).symm⟩)
        rcases h1 with ⟨_, h1⟩ | ⟨_, h1⟩
        · exact .inr h1
        · exact .inl h1
      · split at e
        · next p1 ps e2 e3 =>
          split at e
          · next hh =>
            cases e
            rcases h1 with ⟨h0, h1⟩ | ⟨_, h1⟩
            · exact .inr (.inr ⟨p1, ps, ra.d_inv.dp e2, .inr (.tup h1 (r1.dp e3)), hh.1, hh.2, rfl⟩)
            · exact .inr (.inr ⟨p1, ps, ra.d_inv.dp e2, .inl (.lst h1 (r1.dp e3)), hh.1, hh.2, rfl⟩)
          · cases e
        · cases e
    · cases e
  · cases e
variable {o : COp}
theorem or_cmp (hK : X.K = G.K) (hu : X.A.units + 65 < cLine) : OpR X (compareOp o.op) (rB2 G ex (cmpD o)) := by
  cases o with
  | lt => exact or_int op_lt
  | le => exact or_int op_le
  | gt => exact or_int op_gt
  | ge => exact or_int op_ge
  | eq =>
    rintro pins s σ H x y v u Q I rx ry ⟨ρ, S, a, b, z, R, ra, rb, e, k⟩
    obtain ⟨p, q, h1, h2, h3, h4, rfl⟩ := eqD_inv R ra rb e
    exact op_eqD (by omega) pins s σ H _ _ v u Q I rx ry ⟨p, q, hK ▸ h1, hK ▸ h2, h3, h4, k⟩
  | ne =>
    rintro pins s σ H x y v u Q I rx ry ⟨ρ, S, a, b, z, R, ra, rb, e, k⟩
    simp only [cmpD, Option.map_eq_some_iff] at e
    obtain ⟨z', e, rfl⟩ := e
    obtain ⟨p, q, h1, h2, h3, h4, rfl⟩ := eqD_inv R ra rb e
    exact op_neD (by omega) pins s σ H _ _ v u Q I rx ry ⟨p, q, hK ▸ h1, hK ▸ h2, h3, h4, k⟩
  | inn =>
    rintro pins s σ H x y v u Q I rx ry ⟨ρ, S, a, b, z, R, ra, rb, e, k⟩
    rcases in_inv R ra rb e with ⟨c, t, rfl, rfl, rfl⟩ | ⟨p, vs, rfl, h1, h2, h3, rfl⟩ | ⟨d, ds, h1, h2, h3, h4, rfl⟩
    · exact op_in_sign pins s σ H _ _ v u Q I rx ry ⟨_, _, rfl, rfl, by simpa using k⟩
    · exact op_in_seq pins s σ H _ _ v u Q I rx ry ⟨p, vs, rfl, hK ▸ h1, h2, h3, k⟩
    · rcases h2 with h2 | h2
      · exact op_inD (by omega) pins s σ H _ _ v u Q I rx ry ⟨d, ds, hK ▸ h1, hK ▸ h2, h3, h4, k⟩
      · exact op_inT (by omega) pins s σ H _ _ v u Q I rx ry ⟨d, ds, hK ▸ h1, hK ▸ h2, h3, (shaped_tup ds).trans h4, k⟩
  | nin =>
    rintro pins s σ H x y v u Q I rx ry ⟨ρ, S, a, b, z, R, ra, rb, e, k⟩
    simp only [cmpD, Option.map_eq_some_iff] at e
    obtain ⟨z', e, rfl⟩ := e
    rcases in_inv R ra rb e with ⟨c, t, rfl, rfl, rfl⟩ | ⟨p, vs, rfl, h1, h2, h3, rfl⟩ | ⟨d, ds, h1, h2, h3, h4, rfl⟩
    · exact op_notIn_sign pins s σ H _ _ v u Q I rx ry ⟨_, _, rfl, rfl, by simpa using k⟩
    · exact op_notIn_seq pins s σ H _ _ v u Q I rx ry ⟨p, vs, rfl, hK ▸ h1, h2, h3, k⟩
    · rcases h2 with h2 | h2
      · exact op_notInD (by omega) pins s σ H _ _ v u Q I rx ry ⟨d, ds, hK ▸ h1, hK ▸ h2, h3, h4, k⟩
      · exact op_notInT (by omega) pins s σ H _ _ v u Q I rx ry ⟨d, ds, hK ▸ h1, hK ▸ h2, h3, (shaped_tup ds).trans h4, k⟩

/-! ### truth -/
theorem isEmpty_len {α β : Type} {xs : List α} {ys : List β} (h : xs.length = ys.length) : (!xs.isEmpty) = !ys.isEmpty := by
  cases xs <;> cases ys <;> simp_all
theorem tru_of {k : Bool} (hK : X.K = G.K) (R : RelS G ρ S H) (r : RelW G ex (Live ρ S) ρ H w v) (e : truthy w S = some k) : TruV X.K v H k := by
  have viaSeq : ∀ {kd xs}, seqOf w S = some (kd, xs) → k = !xs.isEmpty → TruV X.K v H k := fun {kd xs} e1 e2 => by
    obtain ⟨p, vs, rfl, h1, r1⟩ := r.seqOf R e1
    rcases h1 with ⟨_, h1⟩ | ⟨_, h1⟩
    · exact .inr (.inl ⟨vs, hK ▸ h1, e2.trans (isEmpty_len r1.length)⟩)
    · exact .inl ⟨vs, hK ▸ h1, e2.trans (isEmpty_len r1.length)⟩
  have viaMap : ((seqOf w S).map fun p => !p.2.isEmpty) = some k → TruV X.K v H k := fun e1 => by
    simp only [Option.map_eq_some_iff] at e1
    obtain ⟨⟨kd, xs⟩, e2, e3⟩ := e1
    exact viaSeq e2 e3.symm
  cases w with
  | d x =>
    have rd := r.d_inv
    cases x with
    | non => cases rd; simp only [truthy] at e; cases e; exact rfl
    | bl b => cases rd; simp only [truthy] at e; cases e; exact rfl
    | int i => cases rd; simp only [truthy] at e; cases e; exact rfl
    | str t =>
      cases rd
      simp only [truthy] at e
      split at e
      · next hl =>
        cases e
        refine ⟨by rw [str_len]; exact hl, ?_⟩
        rw [str_len]
        cases t with
        | nil => rfl
        | cons c t => simp; omega
      · cases e
    | tup xs => exact viaMap e
    | lst xs => exact viaMap e
    | dic _ => simp [truthy] at e
    | obj _ _ => simp [truthy] at e
    | fn _ => simp [truthy] at e
  | loc l => exact viaMap e
  | scr ns => exact viaMap e
  | exn c fs => exact viaMap e
/-! ### items -/
theorem atI_map {α β : Type} {xs : List α} {i : Int} {x : α} (h : atI xs i = some x) : ∃ j, ixN xs.length i = some j ∧ xs[j]? = some x := by
  unfold atI at h
  cases e : ixN xs.length i with
  | none => rw [e] at h; cases h
  | some j => rw [e] at h; exact ⟨j, rfl, h⟩
theorem RelDs.atI {xs : List D} {vs : List V} {i : Int} {x : D} {L : Addr → Prop} (h : RelDs G L H xs vs) (e : L2.atI xs i = some x) : ∃ v, L2.atI vs i = some v ∧ RelD G L H x v := by
  obtain ⟨j, e1, e2⟩ := atI_map (β := V) e
  obtain ⟨v, e3, r⟩ := h.get e2
  refine ⟨v, ?_, r⟩
  unfold L2.atI
  rw [← h.length, e1]
  exact e3
theorem RelWs.atI {xs : List W} {vs : List V} {i : Int} {x : W} {L : Addr → Prop} (h : RelWs G ex L ρ H xs vs) (e : L2.atI xs i = some x) : ∃ v, L2.atI vs i = some v ∧ RelW G ex L ρ H x v := by
  obtain ⟨j, e1, e2⟩ := atI_map (β := V) e
  obtain ⟨v, e3, r⟩ := h.get e2
  refine ⟨v, ?_, r⟩
  unfold L2.atI
  rw [← h.length, e1]
  exact e3
theorem RelW.none_of {L : Addr → Prop} (h : RelW G none L ρ H w v) : RelW G ex L ρ H w v := by
  cases h with
  | d h => exact .d h
  | loc h => exact .loc h
  | scr h => exact .scr h
  | exn h _ _ _ => cases h
def rIxW (G : Wd) (ex : Ex) : R2 := fun x y H Q => ∃ ρ S a b z, RelS G ρ S H ∧ RelW G ex (Live ρ S) ρ H a x ∧ RelW G ex (Live ρ S) ρ H b y ∧ ixD a b S = some z ∧ ∀ v, RelW G ex (Live ρ S) ρ H z v → Q v H
theorem ix_w (hK : X.K = G.K) : IxR X (rIxW G ex) := by
  rintro e1 e2 pins s σ H x y v u Q I rx ry ⟨ρ, S, a, b, z, R, ra, rb, e, k⟩ hsub
  unfold ixD at e
  split at e
  · next i =>
    have q2 := rb.d_inv.int_inv
    subst q2
    have viaSeq : ∀ {kd xs x'}, seqOf a S = some (kd, xs) → L2.atI xs i = some x' → z = .d x' → wpAny (model X.prog X.w) X.A (subscriptTail e1 e2 v u) (EP X pins σ Q) X.xe s := fun {kd xs x'} g1 g2 g3 => by
      obtain ⟨p, vs, rfl, h1, r1⟩ := ra.seqOf R g1
      obtain ⟨v', g4, r4⟩ := r1.atI g2
      subst g3
      rcases h1 with ⟨_, h1⟩ | ⟨_, h1⟩
      · exact ix_tup e1 e2 pins s σ H _ _ v u Q I rx ry ⟨p, vs, i, v', rfl, rfl, hK ▸ h1, g4, k _ (.d r4)⟩ hsub
      · exact ix_list e1 e2 pins s σ H _ _ v u Q I rx ry ⟨p, vs, i, v', rfl, rfl, hK ▸ h1, g4, k _ (.d r4)⟩ hsub
    split at e
    · next t =>
      split at e
      · next hl =>
        simp only [Option.map_eq_some_iff] at e
        obtain ⟨c, e3, e4⟩ := e
        subst e4
        have q1 := ra.d_inv.str_inv
        subst q1
        refine ix_str e1 e2 pins s σ H _ _ v u Q I rx ry ⟨Str' t, i, c, rfl, rfl, by rw [str_len]; exact hl, by simpa using e3, ?_⟩ hsub
        exact k _ (.d (.str [c]))
      · cases e
    · next l =>
      split at e
      · next xs g1 =>
        simp only [Option.map_eq_some_iff] at e
        obtain ⟨x', e3, e4⟩ := e
        exact viaSeq (kd := .lst) (xs := xs) (by simp only [seqOf, g1]) e3 e4.symm
      · next ws g1 =>
        cases ra with
        | loc ha =>
          cases R.cell l _ _ g1 ha with
          | lsw h1 h2 =>
            obtain ⟨v', g4, r4⟩ := h2.atI e
            exact ix_list e1 e2 pins s σ H _ _ v u Q I rx ry ⟨_, _, i, v', rfl, rfl, SqL.of h1, g4, k _ r4.none_of⟩ hsub
      · cases e
    · split at e
      · next kd xs g1 =>
        simp only [Option.map_eq_some_iff] at e
        obtain ⟨x', e3, e4⟩ := e
        exact viaSeq g1 e3 e4.symm
      · cases e
  · cases e
/-! ### slices -/
def rSlW (G : Wd) (ex : Ex) : V → Option Int → Option Int → Hp → VK → Prop := fun x lo hi H Q => ∃ ρ S a z, RelS G ρ S H ∧ RelW G ex (Live ρ S) ρ H a x ∧ slD a lo hi S = some z ∧ ∀ v H', Ext ρ S H ρ S H' → RelS G ρ S H' → RelD G (Live ρ S) H' z v → Q v H'
theorem sIx_whole {n : Nat} {lo hi : Option Int} (h : HT.sIx n 0 lo = 0 ∧ HT.sIx n n hi = n) {α : Type} {xs : List α} (e : xs.length = n) : cut xs lo hi = xs := by
  unfold RI.cut
  subst e
  rw [h.1, h.2]
  simp
theorem sl_w (hK : X.K = G.K) : SlR X (rSlW G ex) := by
  rintro pins s σ H x v vl vu lo hi sl Q I rx hs pl pu ⟨ρ, S, a, z, R, ra, e, k⟩
  unfold slD at e
  split at e
  · next t =>
    split at e
    · next hl =>
      cases e
      have q1 := ra.d_inv.str_inv
      subst q1
      refine sl_str pins s σ H _ v vl vu lo hi sl Q I rx hs pl pu ⟨Str' t, rfl, by rw [str_len]; exact hl, ?_⟩
      have ec : cutS (Str' t) lo hi = Str' (RI.cut t lo hi) := by
        unfold cutS RI.cut
        rw [str_len]
      rw [ec]
      exact k _ H .refl R (.str _)
    · cases e
  · split at e
    · next xs g1 =>
      cases e
      obtain ⟨p, vs, rfl, h1, r1⟩ := ra.seqOf R g1
      rcases h1 with ⟨_, h1⟩ | ⟨h0, _⟩
      · refine sl_tupA pins s σ H _ v vl vu lo hi sl Q I rx hs pl pu ⟨p, vs, rfl, hK ▸ h1, fun hw => ?_, fun _ q hq => ?_⟩
        · rw [sIx_whole hw r1.length] at k
          exact k _ H .refl R (.tup h1 r1)
        · exact k _ _ (.newObj hq) (R.newObj hq) (.newTup R hq (r1.cut _ _))
      · cases h0
    · next xs g1 =>
      cases e
      obtain ⟨p, vs, rfl, h1, r1⟩ := ra.seqOf R g1
      rcases h1 with ⟨h0, _⟩ | ⟨_, h1⟩
      · cases h0
      · exact sl_list pins s σ H _ v vl vu lo hi sl Q I rx hs pl pu ⟨p, vs, rfl, hK ▸ h1, fun q hq => k _ _ (.newObj hq) (R.newObj hq) (.newLst R hq (r1.cut _ _))⟩
    · cases e
end
end RI
/-! RI6: built-in functions and methods. -/
namespace RI
open PySem PySem.Spec PyProof.Rows L2

section
variable {G : Wd} {ex : Ex} {ρ : Rho} {S : Store} {H : Hp} {L : Addr → Prop} {X : Cx}
theorem RelDs.bls : ∀ {xs : List D} {vs : List V} {k : Bool}, RelDs G L H xs vs → allB xs = some k → ∃ bs : List Bool, vs = bs.map V.bl ∧ k = bs.all id
  | _, _, k, .nil, e => by simp only [allB] at e; cases e; exact ⟨[], rfl, rfl⟩
  | x :: xs, _, k, .cons a h, e => by
    cases a <;> simp only [allB] at e <;> try cases e
    simp only [Option.map_eq_some_iff] at e
    obtain ⟨k', e1, e2⟩ := e
    obtain ⟨bs, e3, e4⟩ := RelDs.bls h e1
    subst e3; subst e4; subst e2
    exact ⟨_ :: bs, rfl, rfl⟩
theorem RelDs.bls' : ∀ {xs : List D} {vs : List V} {k : Bool}, RelDs G L H xs vs → anyB xs = some k → ∃ bs : List Bool, vs = bs.map V.bl ∧ k = bs.any id
  | _, _, k, .nil, e => by simp only [anyB] at e; cases e; exact ⟨[], rfl, rfl⟩
  | x :: xs, _, k, .cons a h, e => by
    cases a <;> simp only [anyB] at e <;> try cases e
    simp only [Option.map_eq_some_iff] at e
    obtain ⟨k', e1, e2⟩ := e
    obtain ⟨bs, e3, e4⟩ := RelDs.bls' h e1
    subst e3; subst e4; subst e2
    exact ⟨_ :: bs, rfl, rfl⟩
theorem RelDs.ints_of : ∀ {xs : List D} {vs : List V} {ns : List Int}, RelDs G L H xs vs → intsOf xs = some ns → vs = ns.map V.int
  | _, _, ns, .nil, e => by simp only [intsOf] at e; cases e; rfl
  | x :: xs, _, ns, .cons a h, e => by
    cases a <;> simp only [intsOf] at e <;> try cases e
    simp only [Option.map_eq_some_iff] at e
    obtain ⟨k', e1, e2⟩ := e
    subst e2
    rw [RelDs.ints_of h e1]; rfl
theorem RelDs.strs_of : ∀ {xs : List D} {vs : List V} {ns : List (List Nat)}, RelDs G L H xs vs → strsOf xs = some ns → vs = (ns.map Str').map V.str
  | _, _, ns, .nil, e => by simp only [strsOf] at e; cases e; rfl
  | x :: xs, _, ns, .cons a h, e => by
    cases a <;> simp only [strsOf] at e <;> try cases e
    simp only [Option.map_eq_some_iff] at e
    obtain ⟨k', e1, e2⟩ := e
    subst e2
    rw [RelDs.strs_of h e1]; rfl
theorem RelDs.of_strs : ∀ (ns : List (List Nat)), RelDs G L H (ns.map D.str) ((ns.map Str').map V.str)
  | [] => .nil
  | n :: ns => .cons (.str n) (RelDs.of_strs ns)
theorem RelWs.one {w : W} {vs : List V} (h : RelWs G ex L ρ H [w] vs) : ∃ v, vs = [v] ∧ RelW G ex L ρ H w v := by
  cases h with
  | cons a h => cases h; exact ⟨_, rfl, a⟩
theorem RelWs.nil_inv {vs : List V} (h : RelWs G ex L ρ H [] vs) : vs = [] := by cases h; rfl

theorem digits_of : ∀ {t : List Nat}, digitsOk t = true → NumText.AllDigits t
  | [], _ => fun c hc => by cases hc
  | x :: t, h => fun c hc => by
    simp only [digitsOk, Bool.and_eq_true, decide_eq_true_eq] at h
    rcases List.mem_cons.mp hc with e | e
    · subst e; exact h.1
    · exact digits_of h.2 c e
def rBi (G : Wd) (ex : Ex) (b : BI) : List V → Hp → VK → Prop := fun xs H Q => ∃ ρ S ws z, RelS G ρ S H ∧ RelWs G ex (Live ρ S) ρ H ws xs ∧ biD b ws S = some z ∧
  ∀ v H', Ext ρ S H ρ S H' → RelS G ρ S H' → RelD G (Live ρ S) H' z v → Q v H'
abbrev BI.fn : BI → Value
  | .abs => .builtin "abs" | .all => .builtin "all" | .any => .builtin "any" | .int => .type "int" | .len => .builtin "len" | .list => .type "list" | .str => .type "str" | .sum => .builtin "sum"
  | .tuple => .type "tuple" | .min => .builtin "min" | .repr => .builtin "repr" | .sorted => .builtin "sorted"
theorem decI_str (i : Int) : (toString i : Str) = Str' (decI i) := by
  show Str.ofString (toString i) = _
  unfold decI Str'
  simp
theorem cr_bi (hK : X.K = G.K) (hc : X.calm = true) : ∀ b : BI, CallR X b.fn (rBi G ex b) := by
  rintro b pins s σ H xs us Q I rv ⟨ρ, S, ws, z, R, rw', e, k⟩
  unfold biD at e
  split at e
  · next i =>
    cases e
    obtain ⟨v, rfl, r⟩ := rw'.one
    have q := r.d_inv.int_inv; subst q
    exact call_abs pins s σ H _ us Q I rv ⟨i, rfl, k _ H .refl R (.int _)⟩
  · next i =>
    cases e
    obtain ⟨v, rfl, r⟩ := rw'.one
    have q := r.d_inv.int_inv; subst q
    exact call_int1 pins s σ H _ us Q I rv (.inl ⟨i, rfl, k _ H .refl R (.int _)⟩)
  · next i =>
    cases e
    obtain ⟨v, rfl, r⟩ := rw'.one
    have q := r.d_inv.bl_inv; subst q
    exact call_int1 pins s σ H _ us Q I rv (.inr ⟨i, rfl, k _ H .refl R (.int _)⟩)
  · next t =>
    split at e
    · next hd =>
      cases e
      obtain ⟨v, rfl, r⟩ := rw'.one
      have q := r.d_inv.str_inv; subst q
      refine call_int_str pins s σ H _ us Q I rv ⟨Str' t, (decVal t : Int), rfl, ?_, by rw [str_len]; exact hd.2.1, k _ H .refl R (.int _)⟩
      rw [PySem.intText_digits (by show NumText.AllDigits t.toArray.toList; simpa using digits_of hd.2.2) (by show t.toArray.toList ≠ []; simpa using hd.1) (by rw [str_len]; omega)]
      show some ((NumText.digitsVal t.toArray.toList : Nat) : Int) = _
      simp only [List.toList_toArray]
      rfl
    · cases e
  · next i =>
    split at e
    · next hl =>
      cases e
      obtain ⟨v, rfl, r⟩ := rw'.one
      have q := r.d_inv.int_inv; subst q
      refine call_str_int pins s σ H _ us Q I rv ⟨i, rfl, hl, ?_⟩
      rw [decI_str]
      exact k _ H .refl R (.str _)
    · cases e
  · next t =>
    cases e
    obtain ⟨v, rfl, r⟩ := rw'.one
    have q := r.d_inv.str_inv; subst q
    exact SkE.call_str_str pins s σ H _ us Q I rv ⟨_, rfl, k _ H .refl R (.str _)⟩
  · next t =>
    split at e
    · next hl =>
      cases e
      obtain ⟨v, rfl, r⟩ := rw'.one
      have q := r.d_inv.str_inv; subst q
      refine call_len_str pins s σ H _ us Q I rv ⟨_, rfl, by rw [str_len]; exact hl, ?_⟩
      rw [str_len]
      exact k _ H .refl R (.int _)
    · cases e
  · next w _ =>
    simp only [Option.map_eq_some_iff] at e
    obtain ⟨⟨kd, xs⟩, e1, e2⟩ := e
    subst e2
    obtain ⟨v, rfl, r⟩ := rw'.one
    obtain ⟨p, vs, rfl, h1, r1⟩ := r.seqOf R e1
    refine call_len_seq pins s σ H _ us Q I rv ⟨p, vs, rfl, ?_, ?_⟩
    · rcases h1 with ⟨_, h1⟩ | ⟨_, h1⟩
      · exact .inr (hK ▸ h1)
      · exact .inl (hK ▸ h1)
    · rw [← r1.length]
      exact k _ H .refl R (.int _)
  · next w =>
    simp only [Option.map_eq_some_iff] at e
    obtain ⟨⟨kd, xs⟩, e1, e2⟩ := e
    subst e2
    obtain ⟨v, rfl, r⟩ := rw'.one
    obtain ⟨p, vs, rfl, h1, r1⟩ := r.seqOf R e1
    refine call_list_of pins s σ H _ us Q I rv ⟨p, vs, rfl, ?_, fun q hq => k _ _ (.newObj hq) (R.newObj hq) (.newLst R hq r1)⟩
    rcases h1 with ⟨_, h1⟩ | ⟨_, h1⟩
    · exact .inr (hK ▸ h1)
    · exact .inl (hK ▸ h1)
  · next w =>
    simp only [Option.map_eq_some_iff] at e
    obtain ⟨⟨kd, xs⟩, e1, e2⟩ := e
    subst e2
    obtain ⟨v, rfl, r⟩ := rw'.one
    obtain ⟨p, vs, rfl, h1, r1⟩ := r.seqOf R e1
    refine call_tuple_of pins s σ H _ us Q I rv ⟨p, vs, rfl, ?_⟩
    rcases h1 with ⟨_, h1⟩ | ⟨_, h1⟩
    · exact .inr ⟨hK ▸ h1, k _ H .refl R (.tup h1 r1)⟩
    · exact .inl ⟨hK ▸ h1, fun q hq => k _ _ (.newObj hq) (R.newObj hq) (.newTup R hq r1)⟩
  · next w =>
    simp only [Option.bind_eq_some_iff, Option.map_eq_some_iff] at e
    obtain ⟨xs, e1, kk, e2, e3⟩ := e
    subst e3
    obtain ⟨v, rfl, r⟩ := rw'.one
    obtain ⟨p, vs, rfl, h1, r1⟩ := r.lstOf R e1
    obtain ⟨bs, rfl, rfl⟩ := r1.bls e2
    exact cr_all hc pins s σ H _ us Q I rv ⟨p, bs, rfl, SqL.of h1, k _ H .refl R (.bl _)⟩
  · next w =>
    simp only [Option.bind_eq_some_iff, Option.map_eq_some_iff] at e
    obtain ⟨xs, e1, kk, e2, e3⟩ := e
    subst e3
    obtain ⟨v, rfl, r⟩ := rw'.one
    obtain ⟨p, vs, rfl, h1, r1⟩ := r.lstOf R e1
    obtain ⟨bs, rfl, rfl⟩ := r1.bls' e2
    exact cr_any hc pins s σ H _ us Q I rv ⟨p, bs, rfl, SqL.of h1, k _ H .refl R (.bl _)⟩
  · next w =>
    split at e
    · next xs e1 =>
      simp only [Option.map_eq_some_iff] at e
      obtain ⟨ns, e2, e3⟩ := e
      subst e3
      obtain ⟨v, rfl, r⟩ := rw'.one
      obtain ⟨p, vs, rfl, h1, r1⟩ := r.seqOf R e1
      rcases h1 with ⟨h0, _⟩ | ⟨_, h1⟩
      · cases h0
      · have q := r1.ints_of e2; subst q
        exact cr_sum hc pins s σ H _ us Q I rv ⟨p, ns, rfl, hK ▸ h1, k _ H .refl R (.int _)⟩
    · cases e
  · cases e

/-! ### methods of built-in types -/
def rBm (G : Wd) (ex : Ex) (m : BM) : V → List V → Hp → VK → Prop := fun x xs H Q => ∃ ρ S o ws w S', RelS G ρ S H ∧ RelW G ex (Live ρ S) ρ H o x ∧ RelWs G ex (Live ρ S) ρ H ws xs ∧ bmD m o ws S = .ok w S' ∧
  ∀ v H', Ext ρ S H ρ S' H' → RelS G ρ S' H' → RelW G ex (Live ρ S') ρ H' w v → Q v H'
theorem splitL_ne (c : Nat) : ∀ l, splitL c l ≠ []
  | [] => by simp [splitL]
  | x :: r => by
    simp only [splitL]
    split
    · simp
    · split <;> simp
theorem spl_splitL (c : Nat) : ∀ (l acc : List Nat), TL.spl [c] 0 acc l = match splitL c l with
    | [] => []
    | p :: ps => (acc ++ p) :: ps
  | [], acc => by simp [TL.spl, splitL]
  | x :: r, acc => by
    by_cases h : x = c
    · subst h
      rw [TL.spl_hit (by simp [TL.pre])]
      have ih := spl_splitL x r []
      simp only [splitL, if_true]
      show acc :: TL.spl [x] 0 [] r = _
      rw [ih]
      cases e : splitL x r with
      | nil => exact absurd e (splitL_ne x r)
      | cons p ps => simp
    · rw [TL.spl_miss (by simp [TL.pre]; exact h)]
      rw [spl_splitL c r (acc ++ [x])]
      simp only [splitL, if_neg h]
      cases e : splitL c r with
      | nil => exact absurd e (splitL_ne c r)
      | cons p ps => simp
theorem split_eq {c : Nat} {t : List Nat} (hc : c < 256) : Txt.split (Str' t) (Str' [c]) = (splitL c t).map Str' := by
  apply TL.map_tl_inj
  rw [TL.split_spl (Str' t) (Str' [c]) (by show ([c].toArray.toList ≠ []); simp) (TL.kind_ok (by show ([c].toArray.all _ = true); simp; exact hc))]
  have e1 : TL.tl (Str' [c]) = [c] := by show [c].toArray.toList = _; simp
  have e2 : TL.tl (Str' t) = t := by show t.toArray.toList = _; simp
  rw [e1, e2, spl_splitL c t []]
  rw [List.map_map]
  cases e : splitL c t with
  | nil => exact absurd e (splitL_ne c t)
  | cons p ps =>
    simp only [List.nil_append]
    have : ∀ l : List (List Nat), l.map (TL.tl ∘ Str') = l := fun l => by
      induction l with
      | nil => rfl
      | cons a l ih => rw [List.map_cons, ih]; rfl
    rw [this]
theorem joinL_eq (sep : List Nat) : ∀ ts : List (List Nat), TL.joinL sep ts = joinL sep ts
  | [] => rfl
  | [x] => rfl
  | x :: y :: r => by
    simp only [TL.joinL, joinL]
    rw [joinL_eq sep (y :: r), List.append_assoc]
theorem join_eq' (sep : List Nat) (ts : List (List Nat)) : Txt.join (Str' sep) (ts.map Str') = Str' (joinL sep ts) := by
  apply TL.ext_tl
  rw [TL.join_eq, TL.tl_join]
  have e1 : TL.tl (Str' sep) = sep := by show sep.toArray.toList = _; simp
  have e2 : ∀ l : List (List Nat), (l.map Str').map TL.tl = l := fun l => by
    induction l with
    | nil => rfl
    | cons a l ih => rw [List.map_cons, List.map_cons, ih]
  rw [e1, e2, joinL_eq]
theorem sumLen (ts : List (List Nat)) : ((ts.map Str').map (·.length)).sum = (ts.map List.length).sum := by
  rw [List.map_map]
  rfl
theorem mt_bm (hK : X.K = G.K) : ∀ m : BM, (m = .append → MtR X "list.append" (rBm G ex .append)) ∧ (m = .extend → MtR X "list.extend" (rBm G ex .extend)) ∧ (m = .pop → MtR X "list.pop" (rBm G ex .pop)) ∧
    (m = .join → MtR X "str.join" (rBm G ex .join)) ∧ (m = .split → MtR X "str.split" (rBm G ex .split)) := by
  intro m
  refine ⟨fun _ => ?_, fun _ => ?_, fun _ => ?_, fun _ => ?_, fun _ => ?_⟩
  · rintro pins s σ H x xs v us Q I rx rv ⟨ρ, S, o, ws, w, S', R, ro, rw', e, k⟩
    unfold bmD at e
    split at e <;> try (first | cases e | contradiction)
    next l w0 hm =>
    split at e
    · next ys e1 =>
      obtain ⟨y, rfl, r⟩ := rw'.one
      rcases toD_cases w0 S with ⟨z, S1, ez⟩ | ez
      · rw [ez] at e
        simp only [Res.bind_ok] at e
        obtain ⟨E1, R1, r1⟩ := toD_ok R r ez
        split at e
        · next ys1 e2 =>
          split at e
          · next hl =>
            cases e
            cases ro with
            | loc ha =>
              have hc := R1.cell l _ _ e2 ha
              cases hc with
              | lst h1 h2 =>
                rename_i vs0
                refine mt_append pins s σ H _ _ v us Q I rx rv ⟨_, _, y, rfl, rfl, h1, by rw [← h2.length]; exact hl, ?_⟩
                have ec := Ext.setCell (c' := .lst (ys1 ++ [z])) (o := .lst (vs0 ++ [y])) R1 e2 rfl ha
                refine k _ _ (E1.trans ec) (R1.setCell e2 rfl ha (.lst upd_same ?_)) (.d .non)
                exact (h2.mono ec.kp).append (.cons (r1.mono ec.kp) .nil)
          · cases e
        · cases e
      · rw [ez] at e; cases e
    · cases e
  · rintro pins s σ H x xs v us Q I rx rv ⟨ρ, S, o, ws, w, S', R, ro, rw', e, k⟩
    unfold bmD at e
    split at e <;> try (first | cases e | contradiction)
    next l w0 hm =>
    split at e
    · next ys zs e1 e2 =>
      split at e
      · next hl =>
        cases e
        obtain ⟨y, rfl, r⟩ := rw'.one
        obtain ⟨b, zv, rfl, hb, rz⟩ := r.lstOf R e2
        cases ro with
        | loc ha =>
          cases R.cell l _ _ e1 ha with
          | lst h1 h2 =>
            rename_i vs0
            refine mt_extend pins s σ H _ _ v us Q I rx rv ⟨_, b, _, zv, rfl, rfl, h1, hb, by rw [← h2.length, ← rz.length]; exact hl.1, ?_⟩
            have ec := Ext.setCell (c' := .lst (ys ++ zs)) (o := .lst (vs0 ++ zv)) R e1 rfl ha
            exact k _ _ ec (R.setCell e1 rfl ha (.lst upd_same ((h2.mono ec.kp).append (rz.mono ec.kp)))) (.d .non)
      · cases e
    · cases e
  · rintro pins s σ H x xs v us Q I rx rv ⟨ρ, S, o, ws, w, S', R, ro, rw', e, k⟩
    unfold bmD at e
    split at e <;> try (first | cases e | contradiction)
    next l i hm =>
    split at e
    · next ys e1 =>
      split at e
      · next j e2 =>
        split at e
        · next z e3 =>
          cases e
          obtain ⟨y, rfl, r⟩ := rw'.one
          have q := r.d_inv.int_inv; subst q
          cases ro with
          | loc ha =>
            cases R.cell l _ _ e1 ha with
            | lst h1 h2 =>
              rename_i vs0
              obtain ⟨zv, e4, rz⟩ := h2.get e3
              obtain ⟨g1, g2, g3, g4⟩ := ixN_seq e2
              have hs : (ys.length : Int) ≤ 2 ^ 24 := by
                have := (I.hok _ _ h1).1
                rw [← h2.length] at this
                have e5 : sizeLine = 2 ^ 24 := rfl
                omega
              refine mt_popAt pins s σ H _ _ v us Q I rx rv ⟨_, _, i, j, zv, rfl, rfl, h1, by omega, by omega, by rw [← h2.length]; exact g1, e4, ?_⟩
              have ec := Ext.setCell (c' := .lst (ys.eraseIdx j)) (o := .lst (List.eraseIdx vs0 j)) R e1 rfl ha
              exact k _ _ ec (R.setCell e1 rfl ha (.lst upd_same ((h2.mono ec.kp).erase _))) (.d (rz.mono ec.kp))
        · cases e
      · cases e
    · cases e
  · rintro pins s σ H x xs v us Q I rx rv ⟨ρ, S, o, ws, w, S', R, ro, rw', e, k⟩
    unfold bmD at e
    split at e <;> try (first | cases e | contradiction)
    next t w0 hm =>
    split at e
    · next ts e1 =>
      split at e
      · next hl =>
        cases e
        obtain ⟨y, rfl, r⟩ := rw'.one
        have q := ro.d_inv.str_inv; subst q
        simp only [Option.bind_eq_some_iff] at e1
        obtain ⟨⟨kd, xs⟩, e1, e2⟩ := e1
        obtain ⟨p, vs, rfl, h1, r1⟩ := r.seqOf R e1
        have q := r1.strs_of e2; subst q
        refine mt_join pins s σ H _ _ v us Q I rx rv ⟨Str' t, p, ts.map Str', rfl, rfl, ?_, ?_, ?_⟩
        · rcases h1 with ⟨_, h1⟩ | ⟨_, h1⟩
          · exact .inr (hK ▸ h1)
          · exact .inl (hK ▸ h1)
        · rw [sumLen, List.length_map, str_len]; exact hl
        · rw [join_eq']
          exact k _ H .refl R (.d (.str _))
      · cases e
    · cases e
  · rintro pins s σ H x xs v us Q I rx rv ⟨ρ, S, o, ws, w, S', R, ro, rw', e, k⟩
    unfold bmD at e
    split at e <;> try (first | cases e | contradiction)
    next t c hm =>
    split at e
    · next hl =>
      cases e
      obtain ⟨y, rfl, r⟩ := rw'.one
      have q := ro.d_inv.str_inv; subst q
      have q := r.d_inv.str_inv; subst q
      refine mt_split pins s σ H _ _ v us Q I rx rv ⟨Str' t, Str' [c], rfl, rfl, by rw [str_len]; rfl, by rw [str_len]; exact hl.1, fun p hp => ?_⟩
      rw [split_eq hl.2]
      exact k _ _ (.newObj hp) (R.newObj hp) (.d (.newLst R hp (RelDs.of_strs _)))
    · cases e
end
end RI
/-! RI7: enumerate and zip over lists and tuples alike. -/
namespace RI
open PySem PySem.Spec PyProof.Rows L2

/-- a sequence to be read, by its kind -/
def Sq (k : SK) (K : PySem.W.Frag) (H : Hp) (a : Addr) (vs : List V) : Prop := match k with
  | .tup => SqT K H a vs
  | .lst => SqL K H a vs
/-- its iterator -/
def ItAt (k : SK) (h : Heap) (it a : Addr) (i : Nat) : Prop := match k with
  | .tup => h.IsTupleIter it a i
  | .lst => h.IsListIter it a i
def Holds (k : SK) (h : Heap) (a : Addr) (its : List Value) : Prop := match k with
  | .tup => h.IsTuple a its.toArray
  | .lst => h.IsList a its.toArray
def itObj (k : SK) (a : Addr) : Obj := match k with
  | .tup => { cls := .type "tuple_iterator", data := .fields #[.ref a, .int 0 0] }
  | .lst => { cls := .type "list_iterator", data := .fields #[.ref a, .int 0 0] }
section
variable {X : Cx} {pins : List (Addr × Obj)} {σ : St} {H : Hp} {s : Shared} {k : SK} {a it : Addr} {vs : List V}
theorem Inv.sq (I : L2.Inv X pins σ H s) (h : Sq k X.K H a vs) : ∃ its : List Value, Vals vs its ∧ Holds k s.heap a its := by
  cases k with
  | tup =>
    obtain ⟨its, r, p, _⟩ := L2.Inv.tuple I h
    exact ⟨its, r, p⟩
  | lst =>
    obtain ⟨its, r, p, _⟩ := L2.Inv.list I h
    exact ⟨its, r, p.isList⟩
theorem Inv.sq_inj (I : L2.Inv X pins σ H s) {us : List V} (h : Sq k X.K H a vs) (h' : Sq k X.K H a us) : vs = us := by
  cases k with
  | tup => exact L2.Inv.tuple_inj I h h'
  | lst => exact L2.Inv.list_inj I h h'
theorem begins (k : SK) (a : Addr) (its : List Value) : Begins (.ref a) (itObj k a) (fun h => Holds k h a its) := by
  cases k with
  | tup => exact begins_tuple a its.toArray
  | lst => exact begins_list a its.toArray
theorem draws {prog : Program} {w : World} {A : Around} (hh : A.handled = none) (k : SK) (it a : Addr) (hne : a ≠ it) (its : List Value) :
    Draws prog w A it [it, a] its.length (fun i v => its[i]? = some v) (fun i h => ItAt k h it a i ∧ Holds k h a its) := by
  cases k with
  | tup =>
    have t := Draws.tuple (prog := prog) (w := w) hh it a hne its.toArray
    simp only [List.size_toArray, List.getElem?_toArray] at t
    exact t
  | lst =>
    have t := Draws.list (prog := prog) (w := w) hh it a hne its.toArray
    simp only [List.size_toArray, List.getElem?_toArray] at t
    exact t
theorem itAt_obj {h : Heap} {i : Nat} (st : ItAt k h it a i) : ∃ o, h.get? it = some o ∧ ∀ v, o.data ≠ .cell v := by
  cases k with
  | tup => obtain ⟨o, ho, hc, hd⟩ := st; exact ⟨o, ho, fun v q => by rw [hd] at q; cases q⟩
  | lst => obtain ⟨o, ho, hc, hd⟩ := st; exact ⟨o, ho, fun v q => by rw [hd] at q; cases q⟩
theorem itAt_at {h h' : Heap} {i : Nat} (st : ItAt k h it a i) (e : ∀ o, h.get? it = some o → h'.get? it = some o) : ItAt k h' it a i := by
  cases k with
  | tup => exact Heap.IsTupleIter.at st e
  | lst => exact Heap.IsListIter.at st e
theorem itAt_new {h : Heap} (e : h.get? it = some (itObj k a)) : ItAt k h it a 0 := by
  cases k with
  | tup => exact ⟨_, e, rfl, rfl⟩
  | lst => exact ⟨_, e, rfl, rfl⟩
theorem itAt_ne {h : Heap} {i : Nat} {its : List Value} (st : ItAt k h it a i) (hs : Holds k h a its) : a ≠ it := by
  intro e
  subst e
  cases k with
  | tup =>
    obtain ⟨o, ho, hc, hd⟩ := st
    obtain ⟨o', ho', _, _, hd'⟩ := hs
    rw [ho] at ho'; cases ho'; rw [hd] at hd'; cases hd'
  | lst =>
    obtain ⟨o, ho, hc, hd⟩ := st
    obtain ⟨o', ho', _, _, hd'⟩ := hs
    rw [ho] at ho'; cases ho'; rw [hd] at hd'; cases hd'
end
set_option maxHeartbeats 4000000 in
theorem meets_enum1 {v : Value} {o : Obj} {H : Heap → Prop} (B : Begins v o H) :
    Meets (Builtin.«enumerate.__new__» ⟨[.type "enumerate", v], []⟩) (fun _ R s => H s.heap ∧
      R (.ok (.ret (.ref (s.heap.push o).objs.size))) { s with heap := (s.heap.push o).push { cls := .type "enumerate", data := .fields #[.none, .bool false, .ref s.heap.objs.size, rawInt 0, .none, .none] } }) :=
  .of_wp fun prog w A R s h => by
    obtain ⟨hp, g, d, tk, os⟩ := s; obtain ⟨h1, h⟩ := h
    have hsub := sub_enumerate
    have q1 : ∀ {A' : Around} {E : Value → Shared → Prop} {Q : Value → Shared → Prop}, Q (.ref hp.objs.size) ⟨hp.push o, g, d, tk, os⟩ → wpAny (model prog w) A' (pyIter v) Q E ⟨hp, g, d, tk, os⟩ :=
      fun q => B.iter prog w _ _ ⟨hp, g, d, tk, os⟩ _ h1 q
    wp_walk using q1
    refine wpAny_stack_any fun st => wpAny_pure ?_
    split
    · rename_i c _ _ _ _ _
      cases (c == Value.type "enumerate")
      · wp_walk using q1
        exact ⟨_, rfl, h⟩
      · wp_walk using q1
        exact ⟨_, rfl, h⟩
    · wp_walk using q1
      exact ⟨_, rfl, h⟩
theorem enum1_begins {prog : Program} {w : World} {A : Around} {E : Value → Shared → Prop} {s : Shared} {v : Value} {o : Obj} {H : Heap → Prop} {Q : Value → Shared → Prop} (B : Begins v o H) (h1 : H s.heap)
    (h : ∀ h', IsEnum h' (s.heap.objs.size + 1) s.heap.objs.size 0 .none → h'.get? s.heap.objs.size = some o → h'.objs.size = s.heap.objs.size + 2 →
      (∀ b o, s.heap.get? b = some o → h'.get? b = some o) → Q (.ref (s.heap.objs.size + 1)) { s with heap := h' }) :
    wpAny (model prog w) A (call (.type "enumerate") [v]) Q E s := by
  refine callType_new F.called_enumerate (by decide) (F.typeCall_enumerate_1 _) (F.newCall_enumerate_1 _) (fun obj => F.args_object_init_2 obj _) F.entry_enumerate_new
    (meets_enum1 B) ⟨h1, ?_⟩
  have hz : (s.heap.push o).objs.size = s.heap.objs.size + 1 := Heap.size_push ..
  show _ ∧ _
  rw [hz]
  have he : IsEnum ((s.heap.push o).push { cls := .type "enumerate", data := .fields #[.none, .bool false, .ref s.heap.objs.size, rawInt 0, .none, .none] }) (s.heap.objs.size + 1) s.heap.objs.size 0 .none := by
    have := Heap.get?_push_size (s.heap.push o) (o := { cls := .type "enumerate", data := .fields #[.none, .bool false, .ref s.heap.objs.size, rawInt 0, .none, .none] }) rfl
    rw [hz] at this; exact this
  exact ⟨⟨_, he, rfl⟩, h _ he (Heap.get?_push_of_some _ (Heap.get?_push_size _ B.free)) (by rw [Heap.size_push, hz]) fun b o x => Heap.get?_push_of_some _ (Heap.get?_push_of_some _ x)⟩

/-- (0, x), (1, y), .. -/
def ItE (k : SK) (K : PySem.W.Frag) (a : Addr) (vs : List V) : It :=
  ⟨fun i H => Sq k K H a vs ∧ i < vs.length, fun i H v H' => ∃ T x, v = .ref T ∧ H T = none ∧ H' = upd H T (.tup [.int (i : Nat), x]) ∧ vs[i]? = some x, fun i H => Sq k K H a vs ∧ vs.length = i⟩
theorem turn_en {P : Program} {w : World} {K : PySem.W.Frag} {elts : List Expr} {kk : Nat} {tpos : Pos} (k : SK) (a e it : Addr) (vs : List V) :
    Turn P w K (.Tuple elts kk tpos) (ItE k K a vs) [e, it] e (fun i h => (∃ old, IsEnum h e it ((i : Nat) : Int) old) ∧ ItAt k h it a i ∧ e ≠ it ∧ e ≠ a) where
  mem := by simp
  obj := fun i h st b hb => by
    obtain ⟨⟨old, he⟩, hi, _⟩ := st
    have e' : b = e ∨ b = it := by simpa using hb
    rcases e' with z | z
    · rw [z]; exact ⟨_, he, fun v q => nomatch q⟩
    · rw [z]; exact itAt_obj hi
  keep := fun i h h' st kp => let ⟨⟨old, he⟩, hi, hne, hna⟩ := st; ⟨⟨old, kp e (by simp) _ he⟩, itAt_at hi fun o q => kp it (by simp) o q, hne, hna⟩
  item := by
    intro X hP hw hK hc i pins s σ H E I hf st hg
    subst hP hw hK
    obtain ⟨⟨old, he⟩, hit, hne, hna⟩ := st
    obtain ⟨hq, hlt⟩ := hg
    obtain ⟨its, rv, p⟩ := Inv.sq I hq
    have hh : X.A.in1.handled = none := I.ok.hd hc
    have D := draws (prog := X.prog) (w := X.w) hh k it a (itAt_ne hit p) its
    have hel : e < s.heap.objs.size := Heap.lt_size he
    have hil : it < s.heap.objs.size := by obtain ⟨_, q, _⟩ := itAt_obj hit; exact Heap.lt_size q
    refine wpAny_pyNext_enum_itemC D he ⟨hit, p⟩ (by rw [← rv.length]; exact hlt) hne (by simp [hne, hna]) fun u h' tk hu ho st' hT hsz hk => ?_
    obtain ⟨x, hx, ru⟩ : ∃ x, vs[i]? = some x ∧ RelV x u := by
      obtain ⟨x, hx⟩ : ∃ x, vs[i]? = some x := ⟨_, List.getElem?_eq_getElem hlt⟩
      obtain ⟨u', hu', r'⟩ := rv.get hx
      rw [hu] at hu'; cases hu'
      exact ⟨x, hx, r'⟩
    refine ⟨_, rfl, wpAny_letOwnedTupleGo_enum (s := { s with heap := h', toks := tk + 1 }) ho fun h'' he' sb => ?_⟩
    have hT2 : h''.get? s.heap.objs.size = some { cls := .type "tuple", data := .seq #[.int i tk, u] } := (sb.2 _ (Nat.ne_of_gt hel)).trans hT
    have new : ObjOk X.prog X.w (upd H s.heap.objs.size (.tup [.int (i : Nat), x])) h'' s.heap.objs.size (.tup [.int (i : Nat), x]) :=
      ⟨by show 2 ≤ sizeLine; decide, [.int i tk, u], .cons ⟨_, rfl⟩ (.cons ru .nil), ⟨_, hT2, rfl, _, rfl⟩⟩
    have I1 : L2.Inv X pins σ (upd H s.heap.objs.size (.tup [.int (i : Nat), x])) { s with heap := h'', toks := tk + 1 } :=
      I.turnedNew (ch := [e, it]) (fun b ob hb q => (sb.2 b (fun z => hb (by simp [z]))).trans (hk b ob (fun z => hb (by simp [z])) (fun z => hb (by simp [z])) q)) hf (Nat.le_refl _) new
    refine ⟨.ref s.heap.objs.size, _, I1, rfl, ⟨_, x, rfl, I.hok.fresh (Nat.le_refl _), rfl, hx⟩, ⟨⟨u, ?_⟩, itAt_at st'.1 fun o q => (sb.2 it (Ne.symm hne)).trans q, hne, hna⟩, fun b hb => ?_⟩
    · have e1 : ((i + 1 : Nat) : Int) = (i : Int) + 1 := by omega
      rw [e1]; exact he'
    · have hb' : b < s.heap.objs.size := by
        have e' : b = e ∨ b = it := by simpa using hb
        rcases e' with z | z
        · rw [z]; exact hel
        · rw [z]; exact hil
      rw [upd_ne (Nat.ne_of_lt hb')]
      exact (hf b hb).1
  done := by
    intro X hP hw hK hc i pins s σ H E I hf st hg
    subst hP hw hK
    obtain ⟨⟨old, he⟩, hit, hne, hna⟩ := st
    obtain ⟨hq, hx⟩ := hg
    obtain ⟨its, rv, p⟩ := Inv.sq I hq
    have hh : X.A.in1.handled = none := I.ok.hd hc
    have D := draws (prog := X.prog) (w := X.w) hh k it a (itAt_ne hit p) its
    obtain ⟨f0, f1, f2, f3, f4, f5⟩ := hf it (by simp)
    have hl := rv.length
    have e1 : its.length = i := by omega
    exact wpAny_pyNext_enum_endD D he (by rw [e1]; exact ⟨hit, p⟩) fun h' eb => ⟨rfl, I.turned (t' := s.toks) (fun b o hb q => eb b o hb q) f0 f1 f3 f4 f5⟩
  self := fun A i s Q E st h => let ⟨⟨_, he⟩, _⟩ := st; wpAny_pyIter_enum he h
def iEn (K : PySem.W.Frag) (ta : TA) : TI := fun σ H R => ta σ H fun ws H1 => ∃ k a vs, ws = [.ref a] ∧ Sq k K H1 a vs ∧ R (ItE k K a vs) H1
theorem pi_en {X : Cx} {e : Expr} {ta : TA} {p pos tpos : Pos} {elts : List Expr} {kk : Nat} (hg : Gl X "enumerate") (hm : X.mg "enumerate" = none) (ha : PA X [e] ta) (hs : starEach [e] X.env = [(false, eval e X.env)]) :
    PI X (.Tuple elts kk tpos) (.Call (.Name "enumerate" p) [e] [] pos) (iEn X.K ta) := by
  refine ⟨fun pins s σ H R I h => ?_⟩
  refine Call_ (ld_blt I hg hm boot_enumerate (PyProof.Rows.callWith_type1 (thn (ha.run pos pins s σ H _ I h) fun us s1 ⟨ws, H1, I1, r1, q1⟩ => ?_) hs rfl))
  obtain ⟨k, a, vs, ex, hq, q⟩ := q1
  subst ex
  cases r1 with
  | cons r rr =>
    cases rr
    cases r
    obtain ⟨its, rv, p'⟩ := Inv.sq I1 hq
    refine enum1_begins (begins k a its) p' fun h' he hit hsz hk => wpAny_pyIter_enum he ?_
    have I2 : L2.Inv X pins σ H1 { s1 with heap := h' } := I1.kept (t' := s1.toks) hk
    have ha' : a < s1.heap.objs.size := by
      cases k with
      | tup => obtain ⟨_, q, _⟩ := p'; exact Heap.lt_size q
      | lst => obtain ⟨_, q, _⟩ := p'; exact Heap.lt_size q
    refine ⟨s1.heap.objs.size + 1, [s1.heap.objs.size + 1, s1.heap.objs.size], _, _, H1, rfl, I2, turn_en k a (s1.heap.objs.size + 1) s1.heap.objs.size vs, ⟨⟨.none, he⟩, itAt_new hit, Nat.succ_ne_self _, fun z => absurd ha' (by rw [← z]; exact Nat.not_lt.mpr (Nat.le_succ _))⟩, fun b hb => ?_, q⟩
    have e' : b = s1.heap.objs.size + 1 ∨ b = s1.heap.objs.size := by simpa using hb
    have hle : s1.heap.objs.size ≤ b := by
      rcases e' with z | z
      · rw [z]; exact Nat.le_add_right _ _
      · rw [z]; exact Nat.le_refl _
    exact I1.fpOk hle (I1.hok.fresh hle)

/-- (x, y) of two sequences -/
def ItZ (k1 k2 : SK) (K : PySem.W.Frag) (a b : Addr) (xs ys : List V) : It :=
  ⟨fun i H => Sq k1 K H a xs ∧ Sq k2 K H b ys ∧ i < xs.length ∧ i < ys.length, fun i H v H' => ∃ T x y, v = .ref T ∧ H T = none ∧ H' = upd H T (.tup [x, y]) ∧ xs[i]? = some x ∧ ys[i]? = some y,
    fun i H => Sq k1 K H a xs ∧ Sq k2 K H b ys ∧ i ≤ xs.length ∧ i ≤ ys.length ∧ (i = xs.length ∨ i = ys.length)⟩
theorem turn_z {P : Program} {w : World} {K : PySem.W.Frag} {elts : List Expr} {kk : Nat} {tpos : Pos} (k1 k2 : SK) {a b z TI TO i1 i2 : Addr} (xs ys : List V) (D : ZipSep2 z TI TO i1 i2 [i1, a] [i2, b]) :
    Turn P w K (.Tuple elts kk tpos) (ItZ k1 k2 K a b xs ys) [z, TI, TO, i1, i2] z (fun i h => IsZip h z TI TO .none ∧ IsTupOf2 h TI (.ref i1) (.ref i2) ∧ (∃ x y, IsTupOf2 h TO x y) ∧ ItAt k1 h i1 a i ∧ ItAt k2 h i2 b i) where
  mem := by simp
  obj := fun i h st c hc => by
    obtain ⟨hz, hTI, ⟨x, y, hTO⟩, h1, h2⟩ := st
    have e' : c = z ∨ c = TI ∨ c = TO ∨ c = i1 ∨ c = i2 := by simpa using hc
    rcases e' with q | q | q | q | q
    · rw [q]; exact ⟨_, hz, fun v q => nomatch q⟩
    · rw [q]; exact ⟨_, hTI, fun v q => nomatch q⟩
    · rw [q]; exact ⟨_, hTO, fun v q => nomatch q⟩
    · rw [q]; exact itAt_obj h1
    · rw [q]; exact itAt_obj h2
  keep := fun i h h' st k => by
    obtain ⟨hz, hTI, ⟨x, y, hTO⟩, h1, h2⟩ := st
    exact ⟨k z (by simp) _ hz, k TI (by simp) _ hTI, ⟨x, y, k TO (by simp) _ hTO⟩, itAt_at h1 fun o q => k i1 (by simp) o q, itAt_at h2 fun o q => k i2 (by simp) o q⟩
  item := by
    intro X hP hw hK hc i pins s σ H E I hf st hg
    subst hP hw hK
    obtain ⟨hz, hTI, ⟨x0, y0, hTO⟩, h1, h2⟩ := st
    obtain ⟨hqx, hqy, hlx, hly⟩ := hg
    obtain ⟨its, rv, p⟩ := Inv.sq I hqx
    obtain ⟨its2, rv2, p2⟩ := Inv.sq I hqy
    have hh : X.A.in1.handled = none := I.ok.hd hc
    have D1 := draws (prog := X.prog) (w := X.w) hh k1 i1 a (itAt_ne h1 p) its
    have D2 := draws (prog := X.prog) (w := X.w) hh k2 i2 b (itAt_ne h2 p2) its2
    have hzl : z < s.heap.objs.size := Heap.lt_size hz
    refine wpAny_pyNext_zipD2_item D D1 D2 hz hTI hTO ⟨h1, p⟩ ⟨h2, p2⟩ (by rw [← rv.length]; exact hlx) (by rw [← rv2.length]; exact hly) fun u u2 h' tk hu hu2 z' TO' st1 st2 hT hsz hk => ?_
    obtain ⟨x, hx, ru⟩ : ∃ x, xs[i]? = some x ∧ RelV x u := by
      obtain ⟨u', hu', r'⟩ := rv.get (List.getElem?_eq_getElem hlx)
      rw [hu] at hu'; cases hu'
      exact ⟨_, List.getElem?_eq_getElem hlx, r'⟩
    obtain ⟨y, hy, ru2⟩ : ∃ y, ys[i]? = some y ∧ RelV y u2 := by
      obtain ⟨u', hu', r'⟩ := rv2.get (List.getElem?_eq_getElem hly)
      rw [hu2] at hu'; cases hu'
      exact ⟨_, List.getElem?_eq_getElem hly, r'⟩
    refine ⟨_, rfl, wpAny_letOwnedTupleGo_zip (s := { s with heap := h', toks := tk }) z' fun h'' z'' sb => ?_⟩
    have hT2 : h''.get? s.heap.objs.size = some { cls := .type "tuple", data := .seq #[u, u2] } := (sb.2 _ (Nat.ne_of_gt hzl)).trans hT
    have new : ObjOk X.prog X.w (upd H s.heap.objs.size (.tup [x, y])) h'' s.heap.objs.size (.tup [x, y]) :=
      ⟨by show 2 ≤ sizeLine; decide, [u, u2], .cons ru (.cons ru2 .nil), ⟨_, hT2, rfl, _, rfl⟩⟩
    have I1 : L2.Inv X pins σ (upd H s.heap.objs.size (.tup [x, y])) { s with heap := h'', toks := tk } :=
      I.turnedNew (ch := [z, TI, TO, i1, i2]) (fun c o hb q => (sb.2 c (fun q' => hb (by simp [q']))).trans (hk c o (fun q' => hb (by simp [q'])) (fun q' => hb (by simp [q'])) (fun q' => hb (by simp [q'])) (fun q' => hb (by simp [q'])) q)) hf (Nat.le_refl _) new
    have i1z : i1 ≠ z := fun e => D.zf1 (by rw [← e]; simp)
    have i2z : i2 ≠ z := fun e => D.zf2 (by rw [← e]; simp)
    refine ⟨.ref s.heap.objs.size, _, I1, rfl, ⟨_, x, y, rfl, I.hok.fresh (Nat.le_refl _), rfl, hx, hy⟩, ⟨z'', ?_, ⟨u, u2, ?_⟩, ?_, ?_⟩, fun c hcm => ?_⟩
    · exact (sb.2 _ D.TIz).trans (hk _ _ D.TIz D.TITO D.TIi1 D.TIi2 hTI)
    · exact (sb.2 _ D.TOz).trans TO'
    · exact itAt_at st1.1 fun o q => (sb.2 _ i1z).trans q
    · exact itAt_at st2.1 fun o q => (sb.2 _ i2z).trans q
    · have hlt : c < s.heap.objs.size := by
        have e' : c = z ∨ c = TI ∨ c = TO ∨ c = i1 ∨ c = i2 := by simpa using hcm
        rcases e' with q | q | q | q | q
        · rw [q]; exact hzl
        · rw [q]; exact Heap.lt_size hTI
        · rw [q]; exact Heap.lt_size hTO
        · rw [q]; obtain ⟨_, e1, _⟩ := itAt_obj h1; exact Heap.lt_size e1
        · rw [q]; obtain ⟨_, e2, _⟩ := itAt_obj h2; exact Heap.lt_size e2
      rw [upd_ne (Nat.ne_of_lt hlt)]
      exact (hf c hcm).1
  done := by
    intro X hP hw hK hc i pins s σ H E I hf st hg
    subst hP hw hK
    obtain ⟨hz, hTI, ⟨x0, y0, hTO⟩, h1, h2⟩ := st
    obtain ⟨hqx, hqy, hlx, hly, hend⟩ := hg
    obtain ⟨its, rv, p⟩ := Inv.sq I hqx
    obtain ⟨its2, rv2, p2⟩ := Inv.sq I hqy
    have l1 := rv.length
    have l2 := rv2.length
    have hh : X.A.in1.handled = none := I.ok.hd hc
    have D1 := draws (prog := X.prog) (w := X.w) hh k1 i1 a (itAt_ne h1 p) its
    have D2 := draws (prog := X.prog) (w := X.w) hh k2 i2 b (itAt_ne h2 p2) its2
    exact wpAny_pyNext_zipD2_end D D1 D2 hz hTI hTO ⟨h1, p⟩ ⟨h2, p2⟩ (by omega) (by omega) (by omega) fun h' tk hk => ⟨rfl, I.turnedL (t' := tk) (ch := [z, TI, TO, i1, i2]) (fun c o hb q =>
      hk c o (fun q' => hb (by simp [q'])) (fun q' => hb (by simp [q'])) (fun q' => hb (by simp [q'])) (fun q' => hb (by simp [q'])) q) hf⟩
  self := fun A i s Q E st h => wpAny_pyIter_zip st.1 h
def iZp (K : PySem.W.Frag) (ta : TA) : TI := fun σ H R => ta σ H fun ws H1 => ∃ k1 k2 a b xs ys, ws = [.ref a, .ref b] ∧ Sq k1 K H1 a xs ∧ Sq k2 K H1 b ys ∧ R (ItZ k1 k2 K a b xs ys) H1
theorem holds_lt {k : SK} {h : Heap} {a : Addr} {its : List Value} (p : Holds k h a its) : a < h.objs.size := by
  cases k with
  | tup => obtain ⟨_, q, _⟩ := p; exact Heap.lt_size q
  | lst => obtain ⟨_, q, _⟩ := p; exact Heap.lt_size q
theorem pi_zp {X : Cx} {e e2 : Expr} {ta : TA} {p pos tpos : Pos} {elts : List Expr} {kk : Nat} (hg : Gl X "zip") (hm : X.mg "zip" = none) (ha : PA X [e, e2] ta)
    (hs : starEach [e, e2] X.env = (false, eval e X.env) :: starEach [e2] X.env) (hpl : (backTo pos (starEach [e2] X.env)).any (·.1) = false) :
    PI X (.Tuple elts kk tpos) (.Call (.Name "zip" p) [e, e2] [] pos) (iZp X.K ta) := by
  refine ⟨fun pins s σ H R I h => ?_⟩
  refine Call_ (ld_blt I hg hm PyProof.Rows.boot_zip (PyProof.Rows.callWith_type1 (thn (ha.run pos pins s σ H _ I h) fun us s1 ⟨ws, H1, I1, r1, q1⟩ => ?_) hs hpl))
  obtain ⟨k1, k2, a, b, xs, ys, ex, hqx, hqy, q⟩ := q1
  subst ex
  cases r1 with
  | cons r rr =>
    cases rr with
    | cons r' rr =>
      cases rr
      cases r
      cases r'
      obtain ⟨its, rv, p1⟩ := Inv.sq I1 hqx
      obtain ⟨its2, rv2, p2⟩ := Inv.sq I1 hqy
      have la := holds_lt p1
      have lb := holds_lt p2
      refine zip_begins2 (begins k1 a its) (begins k2 b its2) p1 p2 fun h' hz hTI hTO h1 h2 hsz hk => wpAny_pyIter_zip hz ?_
      have I2 : L2.Inv X pins σ H1 { s1 with heap := h' } := I1.kept (t' := s1.toks) hk
      have sep := zip_sep2 (N := s1.heap.objs.size) (fp1 := [a]) (fp2 := [b]) (by simpa using la) (by simpa using lb)
      refine ⟨s1.heap.objs.size + 4, [s1.heap.objs.size + 4, s1.heap.objs.size + 2, s1.heap.objs.size + 3, s1.heap.objs.size, s1.heap.objs.size + 1], _, _, H1, rfl, I2, turn_z k1 k2 xs ys sep, ⟨hz, hTI, ⟨_, _, hTO⟩, itAt_new h1, itAt_new h2⟩, fun c hcm => ?_, q⟩
      have e' : c = s1.heap.objs.size + 4 ∨ c = s1.heap.objs.size + 2 ∨ c = s1.heap.objs.size + 3 ∨ c = s1.heap.objs.size ∨ c = s1.heap.objs.size + 1 := by simpa using hcm
      have hle : s1.heap.objs.size ≤ c := by
        rcases e' with z | z | z | z | z
        · rw [z]; exact Nat.le_add_right _ _
        · rw [z]; exact Nat.le_add_right _ _
        · rw [z]; exact Nat.le_add_right _ _
        · rw [z]; exact Nat.le_refl _
        · rw [z]; exact Nat.le_add_right _ _
      exact I1.fpOk hle (I1.hok.fresh hle)
end RI
/-! RI8: the rules for expressions, by the evaluator. -/
namespace RI
open PySem PySem.Spec PyProof.Rows L2

theorem _root_.L2.PE.of {X : Cx} {e : Expr} {t t' : TE} (h : PE X e t) (k : ∀ σ H Q, t' σ H Q → t σ H Q) : PE X e t' := ⟨fun pins s σ H Q I q => h.run pins s σ H Q I (k σ H Q q)⟩
theorem _root_.L2.PT.of {X : Cx} {e : Expr} {t t' : TT} (h : PT X e t) (k : ∀ σ H Q, t' σ H Q → t σ H Q) : PT X e t' := ⟨fun pins s σ H Q I q => h.run pins s σ H Q I (k σ H Q q)⟩
theorem _root_.L2.PA.of {X : Cx} {e : List Expr} {t t' : TA} (h : PA X e t) (k : ∀ σ H Q, t' σ H Q → t σ H Q) : PA X e t' := ⟨fun pos pins s σ H Q I q => h.run pos pins s σ H Q I (k σ H Q q)⟩
theorem _root_.L2.PS.of {X : Cx} {e : Stmt} {t t' : TS} (h : PS X e t) (k : ∀ D σ H, t' D σ H → t D σ H) : PS X e t' := ⟨fun pins s σ H D I q => h.run pins s σ H D I (k D σ H q)⟩
theorem _root_.L2.PSs.of {X : Cx} {e : List Stmt} {t t' : TS} (h : PSs X e t) (k : ∀ D σ H, t' D σ H → t D σ H) : PSs X e t' := ⟨fun pins s σ H D I q => h.run pins s σ H D I (k D σ H q)⟩
/-- a def's promise: what the evaluator says of the call -/
def spF (G : Wd) (call : List W → Store → Res W) (np : Nat) : Sp := fun vs H Q E => ∃ ρ S ws, RelS G ρ S H ∧ RelWs G none (Live ρ S) ρ H ws vs ∧ ws.length = np ∧
  Sat G E ρ S H (call ws S) fun w ρ' S' H' => ∀ v, RelW G none (Live ρ' S') ρ' H' w v → Q v H'
def bltNames : List Str := ["abs", "all", "any", "int", "len", "list", "str", "sum", "tuple", "min", "repr", "sorted", "range", "enumerate", "zip", "isinstance", "bool", "dict", "ValueError", "set"]
def tyVal (G : Wd) : Ty → Value
  | .none => .type "NoneType" | .bool => .type "bool" | .int => .type "int" | .str => .type "str" | .tuple => .type "tuple" | .list => .type "list" | .dict => .type "dict" | .cls c => .ref (G.ca c) | .valueError => .type "ValueError"
def tyOk (P : Prog) : Ty → Bool
  | .cls c => ordC P c
  | .none => false
  | .dict => false
  | .valueError => false
  | _ => true
structure FOk (G : Wd) (X : Cx) (k : Nat) (call : List W → Store → Res W) (f : Nat) (np : Nat) : Prop where
  ex : ∃ (fd : FuncData) (ps : List Str), ps.length = np ∧ FnOk X.prog X.w X.K X.mg X.base (L2.CX X.prog X.w) k (G.fa f) fd ps (spF G call np) ∧ Binds X.K fd ps []
  kp : PySem.W.keepIn X.K (.ref (G.fa f)) = true
structure ClsF (G : Wd) (K : PySem.W.Frag) (P : Prog) (c : Nat) : Prop where
  cls : Cls K (G.ca c)
  kp : PySem.W.keepIn K (.ref (G.ca c)) = true
  ha : PySem.W.findIn K (.ref (G.ca c)) "__class__" = some (some (.builtin "object.__class__"))
  hn : PySem.W.specialIn K (.builtin "object.__class__") "__get__" = some (some (.builtin "getset_descriptor.__get__"))
  htk : PySem.W.takesIn K (.builtin "object.__class__") = some true
  hm : PySem.W.mroIn K (G.ca c) (.type "object") = some true
  na : ∀ f ∈ P.flds, NoAttr K (G.ca c) (G.nm f)
structure EqF (G : Wd) (K : PySem.W.Frag) (c f : Nat) : Prop where
  eq : PySem.W.findIn K (.ref (G.ca c)) "__eq__" = some (some (.ref (G.fa f)))
  ne : PySem.W.findIn K (.ref (G.ca c)) "__ne__" = some (some (.builtin "object.__ne__"))
  fn : PySem.W.isFn K (.ref (G.fa f)) = true
  hm : PySem.W.mroIn K (G.ca c) (.type "object") = some true
/-- what is known where an expression is run -/
structure Sd (G : Wd) (Wx : L2.WX) (C : Ctx) (k : Nat) (X : Cx) : Prop where
  hK : X.K = G.K
  nd : X.N.Nodup
  tk : L2.Takes X Wx
  calm : X.calm = true
  un : X.A.units + 66 < cLine
  room : Room (k + 1) X.A
  fok : ∀ f fd, C.P.fns[f]? = some fd → FOk G X k (C.call f) f fd.np
  fmg : ∀ f fd, C.P.fns[f]? = some fd → fd.top = true → X.mg fd.name = some (.ref (G.fa f))
  cmg : ∀ c d, C.P.cls[c]? = some d → X.mg d.name = some (.ref (G.ca c))
  bmg : ∀ x ∈ bltNames, X.mg x = none
  cst : ∀ (k : Nat) d x, C.P.consts[k]? = some d → C.P.cnm[k]? = some x → ∃ v u, X.mg x = some u ∧ RelV v u ∧ ∀ L H, RelD G L H d v
  clf : ∀ c, ordC C.P c = true → ClsF G X.K C.P c
  mkf : ∀ c d f, C.P.cls[c]? = some d → d.init = some f → Mk X.K (G.ca c) (G.fa f)
  eqm : ∀ c d f, C.P.cls[c]? = some d → lookN 0 d.meths = some f → EqF G X.K c f ∧ ∃ fd, C.P.fns[f]? = some fd ∧ fd.np = 2
  nmI : ∀ f g, G.nm f = G.nm g → f = g
  kit : ∀ t u, tyOk0 C.P t = true → tyOk C.P u = true → PySem.W.kitOne X.K (tyVal G t) (tyVal G u) = some (tyIs C.P t u)

abbrev RE (G : Wd) (ex : Ex) (Wx : L2.WX) (C : Ctx) (e : IE) : TE := RdE G ex Wx (evalP C e).1
abbrev RT (G : Wd) (ex : Ex) (Wx : L2.WX) (C : Ctx) (e : IE) : TT := RdT G ex Wx (evalP C e).2
abbrev REs (G : Wd) (ex : Ex) (Wx : L2.WX) (C : Ctx) (es : IEs) : TA := RdEs G ex Wx (evalEs C es)

section
variable {G : Wd} {ex : Ex} {Wx : L2.WX} {C : Ctx} {k : Nat} {X : Cx} {pos p p2 : Pos} {x : Str} {i : Nat} {a b c : Expr} {ia ib ic : IE}

theorem Res.bind_assoc {α β γ : Type} (r : Res α) (f : α → Store → Res β) (g : β → Store → Res γ) : (r.bind f).bind g = r.bind fun a S => (f a S).bind g := by cases r <;> rfl
/-- a value that is at hand -/
theorem rd_ok {m : Env → Store → Res W} {σ : St} {H : Hp} {Q : VK} {v : V} {w : W} (r : ∀ L ρ, RelW G ex L ρ H w v) (e : ∀ η S, m η S = .ok w S) (q : RdE G ex Wx m σ H Q) : Q v H := by
  obtain ⟨ρ, η, S, R, h⟩ := q
  rw [e] at h
  exact h.now R.st v (r _ _)

theorem e_var (hN : X.N[i]? = some x) (hv : Vis X.env.scope x) (hd : (x == ("__debug__" : Str)) = false := by decide) (hcd : (x == ("__classdict__" : Str)) = false := by decide) : PE X (.Name x pos) (RE G ex Wx C (.var i)) :=
  (pe_var hN hv hd hcd).of fun σ H Q ⟨ρ, η, S, R, h⟩ => by
    obtain ⟨w, e, h2⟩ := Sat.ofO (show Sat _ _ _ _ _ (ofO (getV η i) S) _ from h)
    obtain ⟨v, e2, r⟩ := R.get e
    exact ⟨v, e2, h2.now R.st v r⟩
theorem e_int {j : Int} {kk} : PE X (.Constant (.int j) kk pos) (RE G ex Wx C (.int j)) := pe_int.of fun σ H Q q => rd_ok (fun _ _ => .d (.int j)) (fun _ _ => rfl) q
theorem e_bl {j : Bool} {kk} : PE X (.Constant (.bool j) kk pos) (RE G ex Wx C (.bl j)) := pe_bl.of fun σ H Q q => rd_ok (fun _ _ => .d (.bl j)) (fun _ _ => rfl) q
theorem e_non {kk} : PE X (.Constant .none kk pos) (RE G ex Wx C .non) := pe_non.of fun σ H Q q => rd_ok (fun _ _ => .d .non) (fun _ _ => rfl) q
theorem e_str {s : Str} {t : List Nat} {kk} (h : s = Str' t := by rfl) : PE X (.Constant (.str s) kk pos) (RE G ex Wx C (.str t)) := pe_str.of fun σ H Q q => rd_ok (fun _ _ => h ▸ .d (.str t)) (fun _ _ => rfl) q
theorem e_glob (S : Sd G Wx C k X) {d : D} (hg : Gl X x) (h1 : C.P.consts[i]? = some d) (h2 : C.P.cnm[i]? = some x) (hd : (x == ("__debug__" : Str)) = false := by decide) : PE X (.Name x pos) (RE G ex Wx C (.glob i)) := by
  obtain ⟨v, u, hm, r, hr⟩ := S.cst i d x h1 h2
  exact (pe_glob hg hm r hd).of fun σ H Q q => rd_ok (w := .d d) (fun _ _ => .d (hr _ _)) (fun η S => by show (ofO C.P.consts[i]? S).bind _ = _; rw [h1]; rfl) q
theorem e_fnv (S : Sd G Wx C k X) {fd : FnD} (hg : Gl X x) (h1 : C.P.fns[i]? = some fd) (h2 : fd.name = x) (h3 : fd.top = true) (hd : (x == ("__debug__" : Str)) = false := by decide) : PE X (.Name x pos) (RE G ex Wx C (.fnv i)) := by
  subst h2
  exact (pe_glob hg (S.fmg i fd h1 h3) (v := .ref (G.fa i)) rfl hd).of fun σ H Q q => rd_ok (fun _ _ => .d (.fn i)) (fun _ _ => rfl) q

theorem es_nil : PA X [] (REs G ex Wx C .nil) := ⟨fun pos pins s σ H Q I ⟨ρ, η, S, R, h⟩ => pa_nil.run pos pins s σ H Q I ((show Sat _ _ _ _ _ (.ok [] S) _ from h).now R.st [] .nil)⟩
theorem es_cons {es : List Expr} {ies : IEs} (ha : PE X a (RE G ex Wx C ia)) (hr : PA X es (REs G ex Wx C ies)) (hs : starEach (a :: es) X.env = (false, eval a X.env) :: starEach es X.env := by rfl) : PA X (a :: es) (REs G ex Wx C (.cons ia ies)) :=
  (pa_cons ha hr hs).of fun σ H Q ⟨ρ, η, S, R, h⟩ => rd1 (f := fun w S1 => (evalEs C ies η S1).bind fun ws S2 => .ok (w :: ws) S2) R h fun w v ρ1 S1 H1 R1 e1 r1 h1 => rd1s R1 h1 fun ws vs ρ2 S2 H2 R2 e2 r2 h2 => h2.now R2.st (v :: vs) (.cons (r1.mono e2.kp e2.pre) r2)
def IEs.len : IEs → Nat
  | .nil => 0
  | .cons _ es => es.len + 1
theorem evalEs_len {C : Ctx} {η : Env} : ∀ (es : IEs) (S : Store) (ws : List W) (S' : Store), evalEs C es η S = .ok ws S' → ws.length = es.len
  | .nil, S, ws, S', h => by cases (show Res.ok [] S = .ok ws S' from h); rfl
  | .cons e es, S, ws, S', h => by
    replace h : (((evalP C e).1 η S).bind fun w S1 => (evalEs C es η S1).bind fun ws S2 => .ok (w :: ws) S2) = .ok ws S' := h
    cases h1 : (evalP C e).1 η S with
    | ok w S1 =>
      rw [h1, Res.bind_ok] at h
      cases h2 : evalEs C es η S1 with
      | ok us S2 =>
        rw [h2, Res.bind_ok] at h
        cases h
        exact congrArg (· + 1) (evalEs_len es S1 us _ h2)
      | exc c fs S2 => rw [h2] at h; cases h
      | stk => rw [h2] at h; cases h
    | exc c fs S2 => rw [h1] at h; cases h
    | stk => rw [h1] at h; cases h
theorem evalEs_bind {β : Type} {C : Ctx} {η : Env} (es : IEs) (S : Store) (f : List W → Store → Res β) : (evalEs C es η S).bind f = (evalEs C es η S).bind fun ws S1 => if ws.length = es.len then f ws S1 else .stk := by
  cases h : evalEs C es η S with
  | ok ws S1 => simp [evalEs_len es S ws S1 h]
  | exc c fs S2 => rfl
  | stk => rfl
/-- a list of written values, with its length -/
theorem rd1n {ies : IEs} {ρ : Rho} {S : Store} {H : Hp} {σ : L2.St} {η : Env} {α : Type} {P : α → Rho → Store → Hp → Prop} {f : List W → Store → Res α} {Q : List V → Hp → Prop} (R : RelAll G ex ρ η S σ H) (h : Sat G (fun c d H => Wx c d σ H) ρ S H ((evalEs C ies η S).bind f) P)
    (k : ∀ ws vs ρ1 S1 H1, RelAll G ex ρ1 η S1 σ H1 → Ext ρ S H ρ1 S1 H1 → RelWs G ex (Live ρ1 S1) ρ1 H1 ws vs → vs.length = ies.len → Sat G (fun c d H => Wx c d σ H) ρ1 S1 H1 (f ws S1) P → Q vs H1) : REs G ex Wx C ies σ H Q := by
  rw [evalEs_bind] at h
  refine rd1s R h fun ws vs ρ1 S1 H1 R1 e1 r1 h1 => ?_
  split at h1
  · next e => exact k ws vs ρ1 S1 H1 R1 e1 r1 (by rw [← r1.length]; exact e) h1
  · exact h1.elim
theorem RelAll.newObj {ρ : Rho} {S : Store} {H : Hp} {σ : L2.St} {η : Env} {p : Addr} {o : HO} (R : RelAll G ex ρ η S σ H) (hp : H p = none) : RelAll G ex ρ η S σ (upd H p o) := R.mono (Ext.newObj hp) (R.st.newObj hp)
/-- the answer may come later -/
theorem Sat.after {α : Type} {ρ ρ1 : Rho} {S S1 : Store} {H H1 : Hp} {W' : XK} {z : α} {P : α → Rho → Store → Hp → Prop} (h : Sat G W' ρ S H (.ok z S1) P) (e : Ext ρ S H ρ1 S1 H1) (R : RelS G ρ1 S1 H1) : P z ρ1 S1 H1 := h ρ1 H1 e R
theorem e_tup {es : List Expr} {ies : IEs} {kk} (h : PA X es (REs G ex Wx C ies)) (hl : ies.len ≤ sizeLine := by decide) : PE X (.Tuple es kk pos) (RE G ex Wx C (.tup ies)) :=
  (pe_tup h).of fun σ H Q ⟨ρ, η, S, R, h0⟩ => rd1n (f := fun ws S1 => (toDs ws S1).bind fun xs S2 => .ok (W.d (.tup xs)) S2) R h0 fun ws vs ρ1 S1 H1 R1 e1 r1 l1 h1 => by
    obtain ⟨xs, S2, e2, R2, r2, h2⟩ := h1.toDs_bind R1.st r1
    exact ⟨by rw [l1]; exact hl, fun p hp => (h2.from (Ext.newObj (o := .tup vs) hp)).now (R2.newObj hp) _ (.d (RelD.newTup R2 hp r2))⟩
theorem e_lst {es : List Expr} {ies : IEs} (h : PA X es (REs G ex Wx C ies)) (hl : ies.len ≤ sizeLine := by decide) : PE X (.List es pos) (RE G ex Wx C (.lst ies)) :=
  (pe_lst h).of fun σ H Q ⟨ρ, η, S, R, h0⟩ => rd1n (f := fun ws S1 => (toDs ws S1).bind fun xs S2 => .ok (W.d (.lst xs)) S2) R h0 fun ws vs ρ1 S1 H1 R1 e1 r1 l1 h1 => by
    obtain ⟨xs, S2, e2, R2, r2, h2⟩ := h1.toDs_bind R1.st r1
    exact ⟨by rw [l1]; exact hl, fun p hp => (h2.from (Ext.newObj (o := .lst vs) hp)).now (R2.newObj hp) _ (.d (RelD.newLst R2 hp r2))⟩
/-- a new list that is written later on: it gets a cell -/
theorem RelAll.newCell {ρ : Rho} {S : Store} {H : Hp} {σ : L2.St} {η : Env} {p : Addr} {o : HO} {c : Cell} (R : RelAll G ex ρ η S σ H) (hp : H p = none) (hc : RelC G (Live (ρ.app [p]) (S ++ [c])) (ρ.app [p]) (upd H p o) c p) :
    RelAll G ex (ρ.app [p]) η (S ++ [c]) σ (upd H p o) := R.mono (Ext.newCell R.st hp) (R.st.newCell hp hc)
theorem app_get (ρ : Rho) (p : Addr) : (ρ.app [p]).l[ρ.l.length]? = some p := by
  show (ρ.l ++ [p])[ρ.l.length]? = some p
  simp
theorem RelS.newLst {ρ : Rho} {S : Store} {H : Hp} {p : Addr} {xs : List D} {vs : List V} (R : RelS G ρ S H) (hp : H p = none) (h : RelDs G (Live ρ S) H xs vs) :
    RelS G (ρ.app [p]) (S ++ [.lst xs]) (upd H p (.lst vs)) := R.newCell hp (.lst (upd_same ..) (h.mono (Ext.newCell R hp).kp))
theorem e_lstT {es : List Expr} {ies : IEs} (h : PA X es (REs G ex Wx C ies)) (hl : ies.len ≤ sizeLine := by decide) : PE X (.List es pos) (RE G ex Wx C (.thaw (.lst ies))) :=
  (pe_lst h).of fun σ H Q ⟨ρ, η, S, R, h0⟩ => by
    replace h0 : Sat G (fun c d H => Wx c d σ H) ρ S H (((evalEs C ies η S).bind fun ws S1 => (toDs ws S1).bind fun xs S2 => .ok (W.d (.lst xs)) S2).bind fun w S1 => thawD w S1) _ := h0
    have hb : (((evalEs C ies η S).bind fun ws S1 => (toDs ws S1).bind fun xs S2 => .ok (W.d (.lst xs)) S2).bind fun w S1 => thawD w S1) = (evalEs C ies η S).bind fun ws S1 => (toDs ws S1).bind fun xs S2 => .ok (W.loc S2.length) (S2 ++ [.lst xs]) := by
      cases evalEs C ies η S with
      | ok ws S1 =>
        show ((toDs ws S1).bind _).bind _ = (toDs ws S1).bind _
        cases toDs ws S1 <;> rfl
      | exc c fs S2 => rfl
      | stk => rfl
    rw [hb] at h0
    refine rd1n R h0 fun ws vs ρ1 S1 H1 R1 e1 r1 l1 h1 => ?_
    obtain ⟨xs, S2, e2, R2, r2, h2⟩ := h1.toDs_bind R1.st r1
    refine ⟨by rw [l1]; exact hl, fun p hp => ?_⟩
    exact h2.after (Ext.newCell (c := .lst xs) (o := .lst vs) R2 hp) (R2.newLst hp r2) _ (.loc (by rw [← R2.len]; exact app_get _ _))
theorem e_bin {o : BOp} {op : Operator} (S : Sd G Wx C k X) (ha : PE X a (RE G ex Wx C ia)) (hb : PE X b (RE G ex Wx C ib)) (ho : op = o.op := by rfl) : PE X (.BinOp a op b pos) (RE G ex Wx C (.bin o ia ib)) := by
  subst ho
  exact (pe_op (or_bin (o := o) (G := G) (ex := ex) S.hK) ha hb).of fun σ H Q ⟨ρ, η, S, R, h0⟩ => rd1 (f := fun x S1 => ((evalP C ib).1 η S1).bind fun y S2 => (ofO (binD o x y S2) S2).bind fun z S3 => .ok (W.d z) S3) R h0 fun w v ρ1 S1 H1 R1 e1 r1 h1 =>
    rd1 R1 h1 fun w2 v2 ρ2 S2 H2 R2 e2 r2 h2 => by
      obtain ⟨z, ez, h3⟩ := h2.ofO_bind
      exact ⟨ρ2, S2, w, w2, z, R2.st, r1.mono e2.kp e2.pre, r2, ez, fun v' H' e3 R3 r3 => h3.after e3 R3 v' (.d r3)⟩
theorem e_neg (ha : PE X a (RE G ex Wx C ia)) : PE X (.UnaryOp .USub a pos) (RE G ex Wx C (.neg ia)) :=
  (pe_un un_neg ha).of fun σ H Q ⟨ρ, η, S, R, h0⟩ => rd1 (f := fun x S1 => match x with
    | .d (.int i) => .ok (W.d (.int (-i))) S1
    | _ => .stk) R h0 fun w v ρ1 S1 H1 R1 e1 r1 h1 => by
      cases r1 with
      | d r1 =>
        cases r1 with
        | int i => exact ⟨i, rfl, h1.now R1.st _ (.d (.int _))⟩
        | _ => exact (show False from h1).elim
      | _ => exact (show False from h1).elim
theorem e_not (S : Sd G Wx C k X) (ha : PE X a (RE G ex Wx C ia)) : PE X (.UnaryOp .Not a pos) (RE G ex Wx C (.not ia)) :=
  (pe_notT ha).of fun σ H Q ⟨ρ, η, St, R, h0⟩ => rd1 (f := fun x S1 => (ofO (truthy x S1) S1).bind fun b S2 => .ok (W.d (.bl (!b))) S2) R h0 fun w v ρ1 S1 H1 R1 e1 r1 h1 => by
    obtain ⟨z, ez, h3⟩ := h1.ofO_bind
    exact ⟨z, tru_of S.hK R1.st r1 ez, h3.now R1.st _ (.d (.bl _))⟩
theorem cmpW_plain {C : Ctx} {o : COp} (hq : o ≠ .eq ∧ o ≠ .ne) (x y : W) (S : Store) : cmpW C o x y S = (ofO (cmpD o x y S) S).bind fun k S1 => .ok (.d (.bl k)) S1 := by
  cases o <;> first | rfl | exact absurd rfl hq.1 | exact absurd rfl hq.2
/-- no class has an == of its own, or the values are no objects -/
theorem e_cmp {o : COp} {op : CmpOp} (S : Sd G Wx C k X) (ha : PE X a (RE G ex Wx C ia)) (hb : PE X b (RE G ex Wx C ib)) (hq : o ≠ .eq ∧ o ≠ .ne := by decide) (hm : behindInMarks op b = false := by with_unfolding_all rfl) (ho : op = o.op := by rfl) :
    PE X (.Compare a [op] [b] pos) (RE G ex Wx C (.cmp o ia ib)) := by
  subst ho
  exact (pe_cmpR (or_cmp (o := o) (G := G) (ex := ex) S.hK (by have := S.un; omega)) ha hb hm).of fun σ H Q ⟨ρ, η, St, R, h0⟩ => rd1 (f := fun x S1 => ((evalP C ib).1 η S1).bind fun y S2 => cmpW C o x y S2) R h0 fun w v ρ1 S1 H1 R1 e1 r1 h1 =>
    rd1 R1 h1 fun w2 v2 ρ2 S2 H2 R2 e2 r2 h2 => by
      rw [cmpW_plain hq] at h2
      obtain ⟨z, ez, h4⟩ := h2.ofO_bind
      exact ⟨ρ2, S2, w, w2, z, R2.st, r1.mono e2.kp e2.pre, r2, ez, h4.now R2.st _ (.d (.bl z))⟩
theorem e_chain {o o' : COp} {op op' : CmpOp} (S : Sd G Wx C k X) (ha : PE X a (RE G ex Wx C ia)) (hb : PE X b (RE G ex Wx C ib)) (hc : PE X c (RE G ex Wx C ic)) (hm : lastMarks [op, op'] [b, c] = false := by with_unfolding_all rfl) (ho : op = o.op := by rfl) (ho' : op' = o'.op := by rfl) :
    PE X (.Compare a [op, op'] [b, c] pos) (RE G ex Wx C (.chain o o' ia ib ic)) := by
  subst ho ho'
  have hu : X.A.units + 65 < cLine := by have := S.un; omega
  exact (pe_chain (or_cmp (o := o) (G := G) (ex := ex) S.hK hu) (or_cmp (o := o') (G := G) (ex := ex) S.hK hu) ha hb hc hm).of fun σ H Q ⟨ρ, η, St, R, h0⟩ => rd1 (f := fun x S1 => ((evalP C ib).1 η S1).bind fun y S2 => (ofO (cmpD o x y S2) S2).bind fun k S3 =>
      if k = true then ((evalP C ic).1 η S3).bind fun z S4 => (ofO (cmpD o' y z S4) S4).bind fun k' S5 => .ok (W.d (.bl k')) S5 else .ok (.d (.bl false)) S3) R h0 fun w v ρ1 S1 H1 R1 e1 r1 h1 =>
    rd1 R1 h1 fun w2 v2 ρ2 S2 H2 R2 e2 r2 h2 => by
      obtain ⟨z, ez, h4⟩ := h2.ofO_bind
      refine ⟨ρ2, S2, w, w2, z, R2.st, r1.mono e2.kp e2.pre, r2, ez, z, rfl, ?_⟩
      cases z with
      | false => exact h4.now R2.st _ (.d (.bl false))
      | true =>
        refine rd1 R2 h4 fun w3 v3 ρ3 S3 H3 R3 e3 r3 h5 => ?_
        obtain ⟨z', ez', h6⟩ := h5.ofO_bind
        exact ⟨ρ3, S3, w2, w3, z', R3.st, r2.mono e3.kp e3.pre, r3, ez', h6.now R3.st _ (.d (.bl z'))⟩
theorem RelD.is_non {L : Addr → Prop} {H : Hp} {d : D} {v : V} (h : RelD G L H d v) : v = .non ↔ d = .non := by
  cases h <;> simp
theorem e_isn {kk} (ha : PE X a (RE G ex Wx C ia)) : PE X (.Compare a [.Is] [.Constant .none kk p] pos) (RE G ex Wx C (.isn false ia)) :=
  (pe_cmpR op_isN ha (pe_non (X := X) (j := kk) (pos := p)) rfl).of fun σ H Q ⟨ρ, η, St, R, h0⟩ => rd1 (f := fun x S1 => match x with
    | .d .non => .ok (W.d (.bl (!false))) S1
    | _ => .ok (.d (.bl false)) S1) R h0 fun w v ρ1 S1 H1 R1 e1 r1 h1 => by
      refine ⟨rfl, ?_⟩
      cases r1 with
      | d r1 => cases r1 <;> (simp only [reduceCtorEq, decide_false, decide_true]; exact h1.now R1.st _ (.d (.bl _)))
      | _ => simp only [reduceCtorEq, decide_false]; exact h1.now R1.st _ (.d (.bl _))
theorem e_isnt {kk} (ha : PE X a (RE G ex Wx C ia)) : PE X (.Compare a [.IsNot] [.Constant .none kk p] pos) (RE G ex Wx C (.isn true ia)) :=
  (pe_cmpR op_notN ha (pe_non (X := X) (j := kk) (pos := p)) rfl).of fun σ H Q ⟨ρ, η, St, R, h0⟩ => rd1 (f := fun x S1 => match x with
    | .d .non => .ok (W.d (.bl (!true))) S1
    | _ => .ok (.d (.bl true)) S1) R h0 fun w v ρ1 S1 H1 R1 e1 r1 h1 => by
      refine ⟨rfl, ?_⟩
      cases r1 with
      | d r1 => cases r1 <;> (simp only [reduceCtorEq, decide_false, decide_true]; exact h1.now R1.st _ (.d (.bl _)))
      | _ => simp only [reduceCtorEq, decide_false]; exact h1.now R1.st _ (.d (.bl _))
theorem e_ifx (hc : PT X c (RT G ex Wx C ic)) (ha : PE X a (RE G ex Wx C ia)) (hb : PE X b (RE G ex Wx C ib)) : PE X (.IfExp c a b pos) (RE G ex Wx C (.ifx ic ia ib)) :=
  (pe_ifExp hc ha hb).of fun σ H Q ⟨ρ, η, St, R, h0⟩ => rd1t (f := fun k S1 => if k = true then (evalP C ia).1 η S1 else (evalP C ib).1 η S1) R h0 fun z ρ1 S1 H1 R1 e1 h1 => by
    cases z with
    | true => exact ⟨ρ1, η, S1, R1, h1⟩
    | false => exact ⟨ρ1, η, S1, R1, h1⟩
/-! ### and, or -/
theorem e_one {op} (h : PE X a (RE G ex Wx C ia)) : PE X (.BoolOp op [a] pos) (RdE G ex Wx (evalAnd C (.cons ia .nil)).1) := pe_one h
theorem e_oneO {op} (h : PE X a (RE G ex Wx C ia)) : PE X (.BoolOp op [a] pos) (RdE G ex Wx (evalOr C (.cons ia .nil)).1) := pe_one h
theorem e_and2 {i2 : IE} {ies : IEs} {rest : List Expr} (S : Sd G Wx C k X) (ha : PE X a (RE G ex Wx C ia)) (hb : PE X (.BoolOp .And (b :: rest) pos) (RdE G ex Wx (evalAnd C (.cons i2 ies)).1)) :
    PE X (.BoolOp .And (a :: b :: rest) pos) (RdE G ex Wx (evalAnd C (.cons ia (.cons i2 ies))).1) :=
  (pe_andT ha hb).of fun σ H Q ⟨ρ, η, St, R, h0⟩ => rd1 (f := fun x S1 => (ofO (truthy x S1) S1).bind fun k S2 => if k = true then (evalAnd C (.cons i2 ies)).1 η S2 else .ok x S2) R h0 fun w v ρ1 S1 H1 R1 e1 r1 h1 => by
    obtain ⟨z, ez, h3⟩ := h1.ofO_bind
    refine ⟨z, tru_of S.hK R1.st r1 ez, ?_⟩
    cases z with
    | true => exact ⟨ρ1, η, S1, R1, h3⟩
    | false => exact h3.now R1.st _ r1
theorem e_or2 {i2 : IE} {ies : IEs} {rest : List Expr} (S : Sd G Wx C k X) (ha : PE X a (RE G ex Wx C ia)) (hb : PE X (.BoolOp .Or (b :: rest) pos) (RdE G ex Wx (evalOr C (.cons i2 ies)).1)) :
    PE X (.BoolOp .Or (a :: b :: rest) pos) (RdE G ex Wx (evalOr C (.cons ia (.cons i2 ies))).1) :=
  (pe_orT ha hb).of fun σ H Q ⟨ρ, η, St, R, h0⟩ => rd1 (f := fun x S1 => (ofO (truthy x S1) S1).bind fun k S2 => if k = true then .ok x S2 else (evalOr C (.cons i2 ies)).1 η S2) R h0 fun w v ρ1 S1 H1 R1 e1 r1 h1 => by
    obtain ⟨z, ez, h3⟩ := h1.ofO_bind
    refine ⟨z, tru_of S.hK R1.st r1 ez, ?_⟩
    cases z with
    | false => exact ⟨ρ1, η, S1, R1, h3⟩
    | true => exact h3.now R1.st _ r1
theorem e_and {ies : IEs} {es : List Expr} (h : PE X (.BoolOp .And es pos) (RdE G ex Wx (evalAnd C ies).1)) : PE X (.BoolOp .And es pos) (RE G ex Wx C (.and ies)) := h
theorem e_or {ies : IEs} {es : List Expr} (h : PE X (.BoolOp .Or es pos) (RdE G ex Wx (evalOr C ies).1)) : PE X (.BoolOp .Or es pos) (RE G ex Wx C (.or ies)) := h
/-! ### tests -/
/-- the test is the value's truth -/
def plainT : IE → Bool
  | .not _ => false
  | .and _ => false
  | .or _ => false
  | _ => true
theorem evalP_plain {C : Ctx} : ∀ {e : IE}, plainT e = true → evalP C e = mkV (evalP C e).1 := by
  intro e h
  cases e <;> first | rfl | cases h
theorem t_val (S : Sd G Wx C k X) (h : PE X a (RE G ex Wx C ia)) (hp : plainT ia = true := by rfl) (he : ∀ whole, isTrue a X.env whole = (do let v ← whole; standAt a.pos; holding [v] (PySem.truthy v)) := by intro _; rfl) : PT X a (RT G ex Wx C ia) :=
  (pt_truth h he).of fun σ H Q ⟨ρ, η, St, R, h0⟩ => by
    rw [show (evalP C ia).2 = (mkV (evalP C ia).1).2 from congrArg (·.2) (evalP_plain hp)] at h0
    refine rd1 (f := fun x S1 => ofO (truthy x S1) S1) R h0 fun w v ρ1 S1 H1 R1 e1 r1 h1 => ?_
    obtain ⟨z, ez, h3⟩ := h1.ofO
    exact ⟨z, tru_of S.hK R1.st r1 ez, h3.now R1.st⟩
theorem t_cmp {o : COp} {op : CmpOp} (S : Sd G Wx C k X) (ha : PE X a (RE G ex Wx C ia)) (hb : PE X b (RE G ex Wx C ib)) (hq : o ≠ .eq ∧ o ≠ .ne := by decide) (hm : behindInMarks op b = false := by with_unfolding_all rfl) (ho : op = o.op := by rfl) :
    PT X (.Compare a [op] [b] pos) (RT G ex Wx C (.cmp o ia ib)) := by
  subst ho
  exact (pt_cmpR (or_cmp (o := o) (G := G) (ex := ex) S.hK (by have := S.un; omega)) ha hb hm).of fun σ H Q ⟨ρ, η, St, R, h0⟩ => by
    replace h0 : Sat G (fun c d H => Wx c d σ H) ρ St H ((((evalP C ia).1 η St).bind fun x S1 => ((evalP C ib).1 η S1).bind fun y S2 => cmpW C o x y S2).bind fun x S1 => ofO (truthy x S1) S1) _ := h0
    rw [Res.bind_assoc] at h0
    refine rd1 R h0 fun w v ρ1 S1 H1 R1 e1 r1 h1 => ?_
    rw [Res.bind_assoc] at h1
    refine rd1 R1 h1 fun w2 v2 ρ2 S2 H2 R2 e2 r2 h2 => ?_
    rw [cmpW_plain hq, Res.bind_assoc] at h2
    obtain ⟨z, ez, h4⟩ := h2.ofO_bind
    exact ⟨ρ2, S2, w, w2, z, R2.st, r1.mono e2.kp e2.pre, r2, ez, z, rfl, h4.now R2.st⟩
theorem t_chain {o o' : COp} {op op' : CmpOp} (S : Sd G Wx C k X) (ha : PE X a (RE G ex Wx C ia)) (hb : PE X b (RE G ex Wx C ib)) (hc : PE X c (RE G ex Wx C ic)) (hm : lastMarks [op, op'] [b, c] = false := by with_unfolding_all rfl) (ho : op = o.op := by rfl) (ho' : op' = o'.op := by rfl) :
    PT X (.Compare a [op, op'] [b, c] pos) (RT G ex Wx C (.chain o o' ia ib ic)) := by
  subst ho ho'
  have hu : X.A.units + 65 < cLine := by have := S.un; omega
  exact (pt_chain (or_cmp (o := o) (G := G) (ex := ex) S.hK hu) (or_cmp (o := o') (G := G) (ex := ex) S.hK hu) ha hb hc hm).of fun σ H Q ⟨ρ, η, St, R, h0⟩ => by
    replace h0 : Sat G (fun c d H => Wx c d σ H) ρ St H ((((evalP C ia).1 η St).bind fun x S1 => ((evalP C ib).1 η S1).bind fun y S2 => (ofO (cmpD o x y S2) S2).bind fun k S3 =>
      if k = true then ((evalP C ic).1 η S3).bind fun z S4 => (ofO (cmpD o' y z S4) S4).bind fun k' S5 => .ok (W.d (.bl k')) S5 else .ok (.d (.bl false)) S3).bind fun x S1 => ofO (truthy x S1) S1) _ := h0
    rw [Res.bind_assoc] at h0
    refine rd1 R h0 fun w v ρ1 S1 H1 R1 e1 r1 h1 => ?_
    rw [Res.bind_assoc] at h1
    refine rd1 R1 h1 fun w2 v2 ρ2 S2 H2 R2 e2 r2 h2 => ?_
    rw [Res.bind_assoc] at h2
    obtain ⟨z, ez, h4⟩ := h2.ofO_bind
    refine ⟨ρ2, S2, w, w2, z, R2.st, r1.mono e2.kp e2.pre, r2, ez, z, rfl, ?_⟩
    cases z with
    | false => exact ⟨false, rfl, h4.now R2.st⟩
    | true =>
      simp only [if_true] at h4 ⊢
      rw [Res.bind_assoc] at h4
      refine rd1 R2 h4 fun w3 v3 ρ3 S3 H3 R3 e3 r3 h5 => ?_
      rw [Res.bind_assoc] at h5
      obtain ⟨z', ez', h6⟩ := h5.ofO_bind
      exact ⟨ρ3, S3, w2, w3, z', R3.st, r2.mono e3.kp e3.pre, r3, ez', z', rfl, h6.now R3.st⟩
theorem bl_of {β : Type} {w : W} {a b : β} : (match w with | .d .non => a | _ => b) = if (w matches .d .non) then a else b := by
  cases w with
  | d x => cases x <;> rfl
  | _ => rfl
theorem t_isn {kk} (ha : PE X a (RE G ex Wx C ia)) : PT X (.Compare a [.Is] [.Constant .none kk p] pos) (RT G ex Wx C (.isn false ia)) :=
  (pt_cmpR op_isN ha (pe_non (X := X) (j := kk) (pos := p)) rfl).of fun σ H Q ⟨ρ, η, St, R, h0⟩ => by
    replace h0 : Sat G (fun c d H => Wx c d σ H) ρ St H ((((evalP C ia).1 η St).bind fun x S1 => match x with
      | .d .non => .ok (W.d (.bl (!false))) S1
      | _ => .ok (.d (.bl false)) S1).bind fun x S1 => ofO (truthy x S1) S1) _ := h0
    rw [Res.bind_assoc] at h0
    refine rd1 R h0 fun w v ρ1 S1 H1 R1 e1 r1 h1 => ⟨rfl, ?_⟩
    cases r1 with
    | d r1 => cases r1 <;> (simp only [reduceCtorEq, decide_false, decide_true]; exact ⟨_, rfl, h1.now R1.st⟩)
    | _ => simp only [reduceCtorEq, decide_false]; exact ⟨_, rfl, h1.now R1.st⟩
theorem t_isnt {kk} (ha : PE X a (RE G ex Wx C ia)) : PT X (.Compare a [.IsNot] [.Constant .none kk p] pos) (RT G ex Wx C (.isn true ia)) :=
  (pt_cmpR op_notN ha (pe_non (X := X) (j := kk) (pos := p)) rfl).of fun σ H Q ⟨ρ, η, St, R, h0⟩ => by
    replace h0 : Sat G (fun c d H => Wx c d σ H) ρ St H ((((evalP C ia).1 η St).bind fun x S1 => match x with
      | .d .non => .ok (W.d (.bl (!true))) S1
      | _ => .ok (.d (.bl true)) S1).bind fun x S1 => ofO (truthy x S1) S1) _ := h0
    rw [Res.bind_assoc] at h0
    refine rd1 R h0 fun w v ρ1 S1 H1 R1 e1 r1 h1 => ⟨rfl, ?_⟩
    cases r1 with
    | d r1 => cases r1 <;> (simp only [reduceCtorEq, decide_false, decide_true]; exact ⟨_, rfl, h1.now R1.st⟩)
    | _ => simp only [reduceCtorEq, decide_false]; exact ⟨_, rfl, h1.now R1.st⟩
theorem t_not (ha : PT X a (RT G ex Wx C ia)) : PT X (.UnaryOp .Not a pos) (RT G ex Wx C (.not ia)) :=
  (pt_not ha).of fun σ H Q ⟨ρ, η, St, R, h0⟩ => rd1t (f := fun b S1 => .ok (!b) S1) R h0 fun z ρ1 S1 H1 R1 e1 h1 => h1.now R1.st
theorem w_one (h : PT X a (RT G ex Wx C ia)) : PW X (.BoolOp .And [a] pos) (RdT G ex Wx (evalAnd C (.cons ia .nil)).2) := pw_and1 h
theorem w_oneO (h : PT X a (RT G ex Wx C ia)) : PW X (.BoolOp .Or [a] pos) (RdT G ex Wx (evalOr C (.cons ia .nil)).2) := pw_or1 h
theorem _root_.L2.PW.of {X : Cx} {e : Expr} {t t' : TT} (h : PW X e t) (k : ∀ σ H Q, t' σ H Q → t σ H Q) : PW X e t' := ⟨fun whole pins s σ H Q I q => h.run whole pins s σ H Q I (k σ H Q q)⟩
theorem w_and {i2 : IE} {ies : IEs} {rest : List Expr} (ha : PT X a (RT G ex Wx C ia)) (hb : PW X (.BoolOp .And (b :: rest) pos) (RdT G ex Wx (evalAnd C (.cons i2 ies)).2)) :
    PW X (.BoolOp .And (a :: b :: rest) pos) (RdT G ex Wx (evalAnd C (.cons ia (.cons i2 ies))).2) :=
  (pw_and ha hb).of fun σ H Q ⟨ρ, η, St, R, h0⟩ => rd1t (f := fun k S1 => if k = true then (evalAnd C (.cons i2 ies)).2 η S1 else .ok false S1) R h0 fun z ρ1 S1 H1 R1 e1 h1 => by
    cases z with
    | true => exact ⟨ρ1, η, S1, R1, h1⟩
    | false => exact h1.now R1.st
theorem w_or {i2 : IE} {ies : IEs} {rest : List Expr} (ha : PT X a (RT G ex Wx C ia)) (hb : PW X (.BoolOp .Or (b :: rest) pos) (RdT G ex Wx (evalOr C (.cons i2 ies)).2)) :
    PW X (.BoolOp .Or (a :: b :: rest) pos) (RdT G ex Wx (evalOr C (.cons ia (.cons i2 ies))).2) :=
  (pw_or ha hb).of fun σ H Q ⟨ρ, η, St, R, h0⟩ => rd1t (f := fun k S1 => if k = true then .ok true S1 else (evalOr C (.cons i2 ies)).2 η S1) R h0 fun z ρ1 S1 H1 R1 e1 h1 => by
    cases z with
    | false => exact ⟨ρ1, η, S1, R1, h1⟩
    | true => exact h1.now R1.st
theorem t_and {ies : IEs} {es : List Expr} (h : PW X (.BoolOp .And es pos) (RdT G ex Wx (evalAnd C ies).2)) : PT X (.BoolOp .And es pos) (RT G ex Wx C (.and ies)) := h.pt
theorem t_or {ies : IEs} {es : List Expr} (h : PW X (.BoolOp .Or es pos) (RdT G ex Wx (evalOr C ies).2)) : PT X (.BoolOp .Or es pos) (RT G ex Wx C (.or ies)) := h.pt
/-! ### sub, slices, fields -/
theorem e_ix (S : Sd G Wx C k X) (ha : PE X a (RE G ex Wx C ia)) (hb : PE X b (RE G ex Wx C ib)) (hs : PlainIx b := by intro _ _; rfl) : PE X (.Subscript a b pos) (RE G ex Wx C (.ix ia ib)) :=
  (pe_ix (ix_w (G := G) (ex := ex) S.hK) ha hb hs).of fun σ H Q ⟨ρ, η, St, R, h0⟩ => rd1 (f := fun x S1 => ((evalP C ib).1 η S1).bind fun y S2 => ofO (ixD x y S2) S2) R h0 fun w v ρ1 S1 H1 R1 e1 r1 h1 =>
    rd1 R1 h1 fun w2 v2 ρ2 S2 H2 R2 e2 r2 h2 => by
      obtain ⟨z, ez, h3⟩ := h2.ofO
      exact ⟨ρ2, S2, w, w2, z, R2.st, r1.mono e2.kp e2.pre, r2, ez, fun v' r' => h3.now R2.st v' r'⟩
def RdO (G : Wd) (ex : Ex) (Wx : L2.WX) (m : Env → Store → Res (Option Int)) : TO := fun σ H Q => ∃ ρ η S, RelAll G ex ρ η S σ H ∧
  Sat G (fun c d H => Wx c d σ H) ρ S H (m η S) fun o ρ' S' H' => Q o H'
theorem _root_.L2.PO.of {X : Cx} {e : Option Expr} {t t' : TO} (h : PO X e t) (k : ∀ σ H Q, t' σ H Q → t σ H Q) : PO X e t' := ⟨fun pins s σ H Q I q => h.run pins s σ H Q I (k σ H Q q)⟩
theorem o_none : PO X none (RdO G ex Wx (evalO C .no)) := po_none.of fun σ H Q ⟨ρ, η, S, R, h⟩ => (show Sat _ _ _ _ _ (.ok none S) _ from h).now R.st
theorem o_some (h : PE X a (RE G ex Wx C ia)) : PO X (some a) (RdO G ex Wx (evalO C (.yes ia))) :=
  (po_some h).of fun σ H Q ⟨ρ, η, S, R, h0⟩ => rd1 (f := fun w S1 => match w with
    | .d (.int i) => .ok (some i) S1
    | _ => .stk) R h0 fun w v ρ1 S1 H1 R1 e1 r1 h1 => by
      cases r1 with
      | d r1 =>
        cases r1 with
        | int i => exact ⟨i, rfl, h1.now R1.st⟩
        | _ => exact (show False from h1).elim
      | _ => exact (show False from h1).elim
theorem rd1o {m : Env → Store → Res (Option Int)} {ρ : Rho} {S : Store} {H : Hp} {σ : L2.St} {η : Env} {α : Type} {P : α → Rho → Store → Hp → Prop} {f : Option Int → Store → Res α} {Q : Option Int → Hp → Prop} (R : RelAll G ex ρ η S σ H) (h : Sat G (fun c d H => Wx c d σ H) ρ S H ((m η S).bind f) P)
    (k : ∀ b ρ1 S1 H1, RelAll G ex ρ1 η S1 σ H1 → Ext ρ S H ρ1 S1 H1 → Sat G (fun c d H => Wx c d σ H) ρ1 S1 H1 (f b S1) P → Q b H1) : RdO G ex Wx m σ H Q :=
  ⟨ρ, η, S, R, h.bind.mono fun w ρ1 S1 H1 _ _ ⟨e, R1, h1⟩ => k w ρ1 S1 H1 (R.mono e R1) e h1⟩
theorem e_sl {lo hi : Option Expr} {il ih : IO} (S : Sd G Wx C k X) (ha : PE X a (RE G ex Wx C ia)) (hl : PO X lo (RdO G ex Wx (evalO C il))) (hh : PO X hi (RdO G ex Wx (evalO C ih))) : PE X (.Subscript a (.Slice lo hi none p2) pos) (RE G ex Wx C (.sl ia il ih)) :=
  (pe_slice (sl_w (G := G) (ex := ex) S.hK) ha hl hh).of fun σ H Q ⟨ρ, η, St, R, h0⟩ => rd1 (f := fun x S1 => (evalO C il η S1).bind fun l S2 => (evalO C ih η S2).bind fun h S3 => (ofO (slD x l h S3) S3).bind fun z S4 => .ok (W.d z) S4) R h0 fun w v ρ1 S1 H1 R1 e1 r1 h1 =>
    rd1o R1 h1 fun l ρ2 S2 H2 R2 e2 h2 => rd1o R2 h2 fun u ρ3 S3 H3 R3 e3 h3 => by
      obtain ⟨z, ez, h4⟩ := h3.ofO_bind
      exact ⟨ρ3, S3, w, z, R3.st, (r1.mono e2.kp e2.pre).mono e3.kp e3.pre, ez, fun v' H' e' R' r' => h4.after e' R' v' (.d r')⟩
end
end RI
/-! RI9: calls, methods, fields, isinstance. -/
namespace RI
open PySem PySem.Spec PyProof.Rows L2

/-! ### cells let go -/
section
variable {G : Wd} {ρ ρ1 : Rho} {S S1 : Store} {H H1 : Hp} {n : Nat}
theorem live_take (hn : n ≤ S1.length) {t : List Addr} (l : ρ.l.length = n) : ∀ a, Live ρ (S1.take n) a → Live (ρ.app t) S1 a := by
  rintro a (f | ⟨m, c, h1, h2, h3⟩)
  · exact .inl f
  · rw [List.getElem?_take] at h1
    split at h1
    · exact .inr ⟨m, c, h1, h2, pre_get h3⟩
    · cases h1
theorem RelW.trunc {L L' : Addr → Prop} {w : W} {v : V} {t : List Addr} (k : Kp L H L' H) (h : RelW G none L (ρ.app t) H w v) (hb : wBelow ρ.l.length w = true) : RelW G none L' ρ H w v := by
  cases h with
  | d h => exact .d (h.mono k)
  | loc h =>
    refine .loc ?_
    replace h : (ρ.l ++ t)[_]? = some _ := h
    rwa [List.getElem?_append_left (by simpa [wBelow] using hb)] at h
  | scr h => exact .scr h
  | exn h => cases h
theorem RelWs.trunc {L L' : Addr → Prop} {t : List Addr} (k : Kp L H L' H) : ∀ {ws : List W} {vs : List V}, RelWs G none L (ρ.app t) H ws vs → ws.all (wBelow ρ.l.length) = true → RelWs G none L' ρ H ws vs
  | _, _, .nil, _ => .nil
  | _, _, .cons h hs, hb => by
    rw [List.all_cons, Bool.and_eq_true] at hb
    exact .cons (h.trunc k hb.1) (RelWs.trunc k hs hb.2)
theorem RelFw.trunc {L L' : Addr → Prop} {t : List Addr} (k : Kp L H L' H) : ∀ {ws : List (Nat × W)} {vs : List (Str × V)}, RelFw G L (ρ.app t) H ws vs → (ws.all fun p => wBelow ρ.l.length p.2) = true → RelFw G L' ρ H ws vs
  | _, _, .nil, _ => .nil
  | _, _, .cons h hs, hb => by
    rw [List.all_cons, Bool.and_eq_true] at hb
    exact .cons (h.trunc k hb.1) (RelFw.trunc k hs hb.2)
theorem RelC.trunc {L L' : Addr → Prop} {c : Cell} {a : Addr} {t : List Addr} (k : Kp L H L' H) (h : RelC G L (ρ.app t) H c a) (hb : cellBelow ρ.l.length c = true) : RelC G L' ρ H c a := by
  cases h with
  | lst h hs => exact .lst h (hs.mono k)
  | lsw h hs => exact .lsw h (hs.trunc k hb)
  | dct h f => exact f.elim
  | ins h hs => exact .ins h (hs.trunc k hb)
  | dead => exact .dead
theorem kp_take (hn : n ≤ S1.length) {t : List Addr} (l : ρ.l.length = n) : Kp (Live (ρ.app t) S1) H (Live ρ (S1.take n)) H := ⟨fun _ _ h _ => h, fun a h => .inl (live_take hn l a h)⟩
theorem RelS.trunc {t : List Addr} (R : RelS G (ρ.app t) S1 H) (l : ρ.l.length = n) (hn : n ≤ S1.length) (hb : belows n (S1.take n) = true) : RelS G ρ (S1.take n) H := by
  refine ⟨by rw [List.length_take, l]; omega, ?_, fun m c a h1 h2 => ?_, fun a h => R.dom a (List.mem_append_left _ h), fun a f => ⟨(R.res a f).1, fun h => (R.res a f).2 (List.mem_append_left _ h)⟩⟩
  · have := R.nd
    exact (List.nodup_append.mp (show (ρ.l ++ t).Nodup from this)).1
  · have hm := h1
    rw [List.getElem?_take] at h1
    split at h1
    · refine (R.cell m c a h1 (pre_get h2)).trunc (kp_take hn l) ?_
      rw [l]
      exact List.all_eq_true.mp hb c (List.mem_of_getElem? hm)
    · cases h1
theorem Ext.trunc {t : List Addr} (e : Ext ρ S H (ρ.app t) S1 H1) (l : ρ.l.length = n) (hn : n ≤ S1.length) : Ext ρ S H ρ (S1.take n) H1 :=
  ⟨⟨[], by simp⟩, e.keep, fun a h => e.new a (live_take hn l a h), e.dom, e.res⟩
end

section
variable {G : Wd} {Wx : L2.WX} {C : Ctx} {k : Nat} {X : Cx} {pos p p2 apos : Pos} {x : Str} {i : Nat} {a b c e o : Expr} {ia ib ic io : IE} {es : List Expr} {ies : IEs} {t : TA} {fd : FnD}

theorem spF_of {call : List W → Store → Res W} {np : Nat} {ρ : Rho} {S : Store} {H : Hp} {ws : List W} {vs : List V} {Q : VK} {E : XK} (R : RelS G ρ S H) (r : RelWs G none (Live ρ S) ρ H ws vs) (l : ws.length = np)
    (h : Sat G E ρ S H (call ws S) fun w ρ' S' H' => ∀ v, RelW G none (Live ρ' S') ρ' H' w v → Q v H') : spF G call np vs H Q E := ⟨ρ, S, ws, R, r, l, h⟩
theorem e_call (S : Sd G Wx C k X) (hg : Gl X x) (h1 : C.P.fns[i]? = some fd) (hn : fd.name = x) (ht : fd.top = true) (hl : ies.len = fd.np) (ha : PA X (e :: es) (REs G none Wx C ies))
    (hdb : (x == ("__debug__" : Str)) = false := by decide) (he : starEach (e :: es) X.env = (false, eval e X.env) :: starEach es X.env := by rfl) (hpl : (backTo pos (starEach es X.env)).any (·.1) = false := by rfl) :
    PE X (.Call (.Name x p) (e :: es) [] pos) (RE G none Wx C (.call i ies)) := by
  subst hn
  obtain ⟨fdat, ps, hps, F, hb⟩ := (S.fok i fd h1).ex
  exact (pe_callS F (S.room.mono (Nat.le_succ _)) hg (S.fmg i fd h1 ht) (S.fok i fd h1).kp hb (fun σ => passAt S.tk σ) ha hdb he hpl).of fun σ H Q ⟨ρ, η, St, R, h0⟩ =>
    rd1n (f := fun ws S1 => C.call i ws S1) R h0 fun ws vs ρ1 S1 H1 R1 e1 r1 l1 h1 => spF_of R1.st r1 (by rw [r1.length, l1, hl]) h1
/-- a name that holds a def -/
theorem e_callv (S : Sd G Wx C k X) (hN : X.N[i]? = some x) (hv : Vis X.env.scope x) (ha : PA X (e :: es) (REs G none Wx C ies))
    (hdb : (x == ("__debug__" : Str)) = false := by decide) (hcd : (x == ("__classdict__" : Str)) = false := by decide)
    (he : starEach (e :: es) X.env = (false, eval e X.env) :: starEach es X.env := by rfl) (hpl : (backTo pos (starEach es X.env)).any (·.1) = false := by rfl) :
    PE X (.Call (.Name x p) (e :: es) [] pos) (RE G none Wx C (.callv i ies)) := by
  refine ⟨fun pins s σ H Q I ⟨ρ, η, St, R, h0⟩ => ?_⟩
  obtain ⟨w, ew, h1⟩ := Sat.ofO_bind (show Sat _ _ _ _ _ ((ofO (getV η i) St).bind fun w S => match w with
    | .d (.fn f) => match C.P.fns[f]? with
      | some fd => (evalEs C ies η S).bind fun ws S1 => if ws.length = fd.np then C.call f ws S1 else .stk
      | none => .stk
    | _ => .stk) _ from h0)
  obtain ⟨v, e2, r⟩ := R.get ew
  cases r with
  | d r =>
    cases r with
    | fn f =>
      dsimp only at h1
      split at h1
      · next fd hf =>
        refine wpAny_Call_Name_kw (thn ((pe_var (pos := p) hN hv hdb hcd).run pins s σ H (fun v H1 => v = .ref (G.fa f) ∧ H1 = H) I ⟨.ref (G.fa f), e2, rfl, rfl⟩) fun u s1 ⟨v, H1, I1, r1, q1⟩ => ?_)
        obtain ⟨rfl, rfl⟩ := q1
        cases r1
        obtain ⟨fdat, ps, hps, F, hb⟩ := (S.fok f fd hf).ex
        refine PySem.W.callWith_K (h₀ := X.base) I.ok.mod.kin (S.fok f fd hf).kp (thn (ha.run pos pins s1 σ _ (fun vs H1 => spF G (C.call f) fd.np vs H1 Q (WE Wx σ)) I1 (rd1s R h1 fun ws vs ρ1 S1 H1 R1 e1 r1 h2 => ?_)) fun us s2 ⟨vs, H2, I2, r, q⟩ => ⟨I2.kIn, ?_⟩) he hpl
        · split at h2
          · next hl => exact spF_of R1.st r1 hl h2
          · exact h2.elim
        · exact run_fnS F (S.room.mono (Nat.le_succ _)) hb (passAt S.tk σ) I2 r q
      · exact h1.elim
    | _ => exact (show False from h1).elim
  | _ => exact (show False from h1).elim
/-- the rest is wanted of the same start -/
theorem Sat.bind0 {W' : XK} {α β : Type} {r : Res α} {f : α → Store → Res β} {ρ : Rho} {S : Store} {H : Hp} {Q : β → Rho → Store → Hp → Prop} (h : Sat G W' ρ S H (r.bind f) Q) : Sat G W' ρ S H r fun a ρ1 S1 H1 => Ext ρ S H ρ1 S1 H1 ∧ RelS G ρ1 S1 H1 ∧ Sat G W' ρ S H (f a S1) Q := by
  cases r with
  | ok a S' => exact fun ρ' H' e R => ⟨e, R, h⟩
  | exc c fs S' => exact h
  | stk => exact h
/-! ### a new object -/
theorem run_makeS {pins : List (Addr × Obj)} {CX : CXT} {Cl f : Addr} {fdt : FuncData} {ps : List Str} {sp : Sp} {E : XK} {σ : L2.St} {H : Hp} {s : Shared} {Q : VK} {us : List Value} {vs : List V} (M : Mk X.K Cl f) (F : FnOk X.prog X.w X.K X.mg X.base CX k f fdt ps sp) (hr : Room (k + 1) X.A) (hb : Binds X.K fdt ps [])
    (hx : PassesAt CX X σ E) (I : Inv X pins σ H s) (r : Vals vs us)
    (h : ∀ x dx, H x = none → H dx = none → dx ≠ x → sp (.ref x :: vs) (upd (upd H dx (.own x)) x (.ins Cl dx [])) (fun v H2 => v = .non ∧ Q (.ref x) H2) E) :
    wpAny (model X.prog X.w) X.A (PySem.call (.ref Cl) us) (EP X pins σ Q) X.xe s := by
  have hq := h (s.heap.objs.size + 1) s.heap.objs.size (I.hok.fresh (Nat.le_succ _)) (I.hok.fresh (Nat.le_refl _)) (Nat.ne_of_lt (Nat.lt_succ_self _))
  have I2 := Inv.made (C := Cl) I
  have r2 : Vals (V.ref (s.heap.objs.size + 1) :: vs) (Value.ref (s.heap.objs.size + 1) :: us) := .cons rfl r
  have hl : (Value.ref (s.heap.objs.size + 1) :: us ++ []).length = ps.length := by
    have e := r2.length
    rw [F.len _ _ _ _ hq] at e
    rw [List.append_nil]
    exact e.symm
  refine wpAny_call (make_map (f := f) I.kIn M.makes M.init (beq_iff_eq.mp M.fn) (codeAny_mono (F.run _ X.stack _ _ ⟨Value.ref (s.heap.objs.size + 1) :: us, []⟩ (Value.ref (s.heap.objs.size + 1) :: us) _ _ E (hr.make Cl us [])
    (I2.env0.make Cl us []) (by have := hb _ (Value.ref (s.heap.objs.size + 1) :: us) I2.kIn hl; rwa [List.append_nil] at this) r2 hq) fun r s' hq' => ?_))
  cases r with
  | error e => exact hx pins _ _ e s' I2 hq'
  | ok fl =>
    cases fl with
    | ret u =>
      obtain ⟨v, H', I3, rv, ev, q3⟩ := I2.after hq'
      subst ev
      exact ⟨rv, ⟨V.ref (s.heap.objs.size + 1), H', I3, rfl, q3⟩⟩
    | next => exact False.elim hq'
    | brk => exact False.elim hq'
    | cont => exact False.elim hq'
theorem RelFw.ds_of {L : Addr → Prop} {ρ : Rho} {H : Hp} {fs : List (Nat × W)} {ds : List (Nat × D)} {vs : List (Str × V)} (h : RelFw G L ρ H fs vs) (e : wsD fs = some ds) : RelFs G L H ds vs := h.ds e
theorem e_mk {cd : ClD} {f : Nat} (S : Sd G Wx C k X) (hg : Gl X x) (h1 : C.P.cls[i]? = some cd) (hi : cd.init = some f) (h2 : C.P.fns[f]? = some fd) (hn : cd.name = x) (hl : ies.len + 1 = fd.np) (ha : PA X (e :: es) (REs G none Wx C ies))
    (hdb : (x == ("__debug__" : Str)) = false := by decide) (he : starEach (e :: es) X.env = (false, eval e X.env) :: starEach es X.env := by rfl) (hpl : (backTo pos (starEach es X.env)).any (·.1) = false := by rfl) :
    PE X (.Call (.Name x p) (e :: es) [] pos) (RE G none Wx C (.mk i ies)) := by
  subst hn
  have M := S.mkf i cd f h1 hi
  obtain ⟨fdat, ps, hps, F, hb⟩ := (S.fok f fd h2).ex
  refine ⟨fun pins s σ H Q I ⟨ρ, η, St, R, h0⟩ => ?_⟩
  refine wpAny_Call_Name_kw (ld_glob I hg (S.cmg i cd h1) ?_ hdb)
  refine PySem.W.callWith_K (h₀ := X.base) I.ok.mod.kin M.kp (thn (ha.run pos pins s σ H (fun vs H1 => ∀ x dx, H1 x = none → H1 dx = none → dx ≠ x → spF G (C.call f) fd.np (.ref x :: vs) (upd (upd H1 dx (.own x)) x (.ins (G.ca i) dx [])) (fun v H2 => v = .non ∧ Q (.ref x) H2) (WE Wx σ)) I
    (rd1n (f := fun ws S1 => mkW C i ws S1) R h0 fun ws vs ρ1 S1 H1 R1 e1 r1 l1 h1' => ?_)) fun us s1 ⟨vs, H1, I1, r, q⟩ => ⟨I1.kIn, ?_⟩) he hpl
  · intro x dx hx hdx hne
    have Rd : RelS G ρ1 S1 (upd H1 dx (.own x)) := R1.st.newObj hdx
    have hx' : upd H1 dx (.own x) x = none := by rw [upd_ne (Ne.symm hne)]; exact hx
    have Rc : RelS G (ρ1.app [x]) (S1 ++ [.ins i []]) (upd (upd H1 dx (.own x)) x (.ins (G.ca i) dx [])) := Rd.newCell hx' (.ins (upd_same ..) .nil)
    have ec : Ext ρ1 S1 H1 (ρ1.app [x]) (S1 ++ [.ins i []]) (upd (upd H1 dx (.own x)) x (.ins (G.ca i) dx [])) := (Ext.newObj hdx).trans (Ext.newCell Rd hx')
    unfold mkW at h1'
    rw [h1] at h1'
    dsimp only at h1'
    rw [hi] at h1'
    dsimp only at h1'
    refine spF_of Rc (.cons (.loc (by rw [← R1.st.len]; exact app_get _ _)) (r1.mono ec.kp ec.pre)) (by rw [List.length_cons, r1.length, l1, hl]) ((h1'.bind0.from ec).mono fun w ρ2 S2 H2 e2 _ ⟨_, R2, h3⟩ v r2 => ?_)
    cases r2 with
    | d r2 =>
      cases r2 with
      | non =>
        refine ⟨rfl, ?_⟩
        dsimp only at h3
        split at h3
        · split at h3
          · next c' fs hc =>
            split at h3
            · next ds hds =>
              split at h3
              · next hcond =>
                obtain ⟨rfl, hbel, hlt⟩ := hcond
                obtain ⟨t, et⟩ := e2.pre
                rw [Rho.app_app] at et
                have ln : ρ1.l.length = S1.length := R1.st.len
                have Rt : RelS G ρ1 (S2.take S1.length) H2 := (et ▸ R2).trunc ln (Nat.le_of_lt hlt) hbel
                have e3 : Ext ρ1 S1 H1 ρ1 (S2.take S1.length) H2 := (et ▸ (ec.trans e2)).trunc ln (Nat.le_of_lt hlt)
                have ha : ρ2.l[S1.length]? = some x := by
                  rw [et, ← ln]
                  show (ρ1.l ++ ([x] ++ t))[ρ1.l.length]? = some x
                  rw [List.getElem?_append_right (Nat.le_refl _)]
                  simp
                have hcell := R2.cell S1.length _ x hc ha
                cases hcell with
                | ins hH hfs =>
                  have kp : Kp (Live ρ2 S2) H2 (Live ρ1 (S2.take S1.length)) H2 := by
                    rw [et]
                    exact kp_take (Nat.le_of_lt hlt) ln
                  have nl : ¬ Live ρ1 (S2.take S1.length) x := by
                    rintro (f0 | ⟨m, c, g1, g2, g3⟩)
                    · exact absurd hx (R1.st.res x f0).1
                    · exact (R1.st.notin hx) (List.mem_of_getElem? g3)
                  exact h3 ρ1 H2 e3 Rt _ (.d (.obj hH nl ((hfs.ds hds).mono kp)))
              · exact h3.elim
            · exact h3.elim
          · exact h3.elim
        · exact h3 ρ2 H2 (ec.trans e2) R2 _ (.loc (by
            obtain ⟨t, et⟩ := e2.pre
            rw [et, ← R1.st.len]
            exact pre_get (app_get _ _)))
      | _ => exact h3.elim
    | _ => exact h3.elim
  · exact run_makeS M F S.room hb (passAt S.tk σ) I1 r q
end
end RI
/-! RI10: built-ins, methods, fields, isinstance, == of objects. -/
namespace RI
open PySem PySem.Spec PyProof.Rows L2
section
variable {G : Wd} {Wx : L2.WX} {C : Ctx} {k : Nat} {X : Cx} {pos p p2 apos : Pos} {x : Str} {i : Nat} {a b c e o : Expr} {ia ib ic io ie : IE} {es : List Expr} {ies : IEs} {t : TA} {fd : FnD}

theorem rbi_of {bi : BI} {t : TA} {T : Value} {σ : L2.St} {H : Hp} {Q : VK} (h : RE G none Wx C (.bi bi ies) σ H Q) : tCB (rBi G none bi) (REs G none Wx C ies) σ H Q := by
  obtain ⟨ρ, η, St, R, h0⟩ := h
  refine rd1s (f := fun ws S1 => (ofO (biD bi ws S1) S1).bind fun x S2 => .ok (W.d x) S2) R h0 fun ws vs ρ1 S1 H1 R1 e1 r1 h1 => ?_
  obtain ⟨z, ez, h3⟩ := h1.ofO_bind
  exact ⟨ρ1, S1, ws, z, R1.st, r1, ez, fun v' H' e' R' r' => h3.after e' R' v' (.d r')⟩
theorem e_biB {bi : BI} {id : String} (S : Sd G Wx C k X) (hg : Gl X x) (hb : bi.fn = .builtin id := by rfl) (hv : bootBuiltins x = some (.builtin id) := by rfl) (hm : x ∈ bltNames := by decide) (ha : PA X (e :: es) (REs G none Wx C ies)) (hn : x ≠ "__name__" := by decide) (hdb : (x == ("__debug__" : Str)) = false := by decide)
    (he : starEach (e :: es) X.env = (false, eval e X.env) :: starEach es X.env := by rfl) (hpl : (backTo pos (starEach es X.env)).any (·.1) = false := by rfl) : PE X (.Call (.Name x p) (e :: es) [] pos) (RE G none Wx C (.bi bi ies)) :=
  (pe_callB (hb ▸ cr_bi (G := G) (ex := none) S.hK S.calm bi) hg (S.bmg x hm) hv ha hn hdb he hpl).of fun σ H Q h => rbi_of (t := fun _ _ _ => True) (T := .none) h
theorem e_biT {bi : BI} {T : String} (S : Sd G Wx C k X) (hg : Gl X x) (hb : bi.fn = .type T := by rfl) (hv : bootBuiltins x = some (.type T) := by rfl) (hm : x ∈ bltNames := by decide) (ha : PA X (e :: es) (REs G none Wx C ies)) (hn : x ≠ "__name__" := by decide) (hdb : (x == ("__debug__" : Str)) = false := by decide)
    (he : starEach (e :: es) X.env = (false, eval e X.env) :: starEach es X.env := by rfl) (hpl : (backTo pos (starEach es X.env)).any (·.1) = false := by rfl) : PE X (.Call (.Name x p) (e :: es) [] pos) (RE G none Wx C (.bi bi ies)) :=
  (pe_callTy (hb ▸ cr_bi (G := G) (ex := none) S.hK S.calm bi) hg (S.bmg x hm) hv ha hn hdb he hpl).of fun σ H Q h => rbi_of (t := fun _ _ _ => True) (T := .none) h
/-! ### methods of built-in types -/
theorem recv_str {m : BM} {ρ : Rho} {S : Store} {H : Hp} {w : W} {v : V} {K : PySem.W.Frag} (hm : m = .join ∨ m = .split) (r : RelW G none (Live ρ S) ρ H w v) (h : recvOk m w S = true) : tyV K "str" v H := by
  have : ∃ s, w = .d (.str s) := by
    rcases hm with rfl | rfl <;>
    · unfold recvOk at h
      cases w with
      | d x => cases x with
        | str s => exact ⟨s, rfl⟩
        | _ => cases h
      | _ => cases h
  obtain ⟨s, rfl⟩ := this
  cases r with
  | d r => cases r; rfl
theorem recv_list {m : BM} {ρ : Rho} {S : Store} {H : Hp} {w : W} {v : V} {K : PySem.W.Frag} (hm : m ≠ .join ∧ m ≠ .split) (R : RelS G ρ S H) (r : RelW G none (Live ρ S) ρ H w v) (h : recvOk m w S = true) : tyV K "list" v H := by
  have : ∃ xs, lstOf w S = some xs := by
    unfold recvOk at h
    cases m <;> first | exact absurd rfl hm.1 | exact absurd rfl hm.2 | exact Option.isSome_iff_exists.mp h
  obtain ⟨xs, e⟩ := this
  obtain ⟨a, vs, rfl, ha, _⟩ := r.lstOf R e
  exact .inl ⟨rfl, vs, SqL.of ha⟩
theorem toD_noexc {w : W} {S : Store} {c : Nat} {fs : List (Nat × D)} {S' : Store} (h : toD w S = .exc c fs S') : False := by
  rcases toD_cases w S with ⟨x, S1, e⟩ | e <;> rw [e] at h <;> cases h
theorem bm_noexc {m : BM} {o : W} {ws : List W} {S : Store} {c : Nat} {fs : List (Nat × D)} {S' : Store} (h : bmD m o ws S = .exc c fs S') : False := by
  unfold bmD at h
  split at h
  · split at h
    · unfold Res.bind at h
      split at h
      · dsimp only at h
        split at h
        · split at h <;> cases h
        · cases h
      · next e => exact toD_noexc e
      · cases h
    · cases h
  · split at h
    · split at h <;> cases h
    · cases h
  · split at h
    · split at h
      · split at h <;> cases h
      · cases h
    · cases h
  · split at h
    · split at h <;> cases h
    · cases h
  · split at h <;> cases h
  · cases h
theorem bm_of {m : BM} {T : String} {K : PySem.W.Frag} {σ : L2.St} {H : Hp} {Q : VK} (hT : ∀ (ρ : Rho) S H w v, RelS G ρ S H → RelW G none (Live ρ S) ρ H w v → recvOk m w S = true → tyV K T v H) (h : RE G none Wx C (.bm ie m ies) σ H Q) : tBM K T (rBm G none m) (RE G none Wx C ie) (REs G none Wx C ies) σ H Q := by
  obtain ⟨ρ, η, St, R, h0⟩ := h
  refine rd1 (f := fun o S1 => if recvOk m o S1 = true then (evalEs C ies η S1).bind fun ws S2 => bmD m o ws S2 else .stk) R h0 fun w v ρ1 S1 H1 R1 e1 r1 h1 => ?_
  split at h1
  · next hr =>
    refine ⟨hT _ _ _ _ _ R1.st r1 hr, rd1s R1 h1 fun ws vs ρ2 S2 H2 R2 e2 r2 h2 => ?_⟩
    cases hb : bmD m w ws S2 with
    | ok z S3 => exact ⟨ρ2, S2, w, ws, z, S3, R2.st, r1.mono e2.kp e2.pre, r2, hb, fun v' H' e' R' r' => by rw [hb] at h2; exact h2 _ _ e' R' v' r'⟩
    | exc c fs S3 => exact (bm_noexc hb).elim
    | stk => rw [hb] at h2; exact h2.elim
  · exact h1.elim
theorem e_append (S : Sd G Wx C k X) (ho : PE X o (RE G none Wx C io)) (ha : PA X [e] (REs G none Wx C ies)) (hbase : attributeBase o "append" X.env (eval o X.env) = eval o X.env := by rfl) (hline : (apos.endLine == pos.line) = true := by rfl)
    (hs : starEach [e] X.env = (false, eval e X.env) :: starEach [] X.env := by rfl) : PE X (.Call (.Attribute o "append" apos) [e] [] pos) (RE G none Wx C (.bm io .append ies)) :=
  (pe_bm PySem.F.plainAttrs_list PySem.F.slot_list_append PySem.F.type_list_append ((mt_bm (G := G) (ex := none) S.hK .append).1 rfl) ho ha hbase (by rw [hs]; rfl) hline hs rfl).of fun σ H Q h => bm_of (fun _ _ _ _ _ R r q => recv_list (by decide) R r q) h
theorem e_extend (S : Sd G Wx C k X) (ho : PE X o (RE G none Wx C io)) (ha : PA X [e] (REs G none Wx C ies)) (hbase : attributeBase o "extend" X.env (eval o X.env) = eval o X.env := by rfl) (hline : (apos.endLine == pos.line) = true := by rfl)
    (hs : starEach [e] X.env = (false, eval e X.env) :: starEach [] X.env := by rfl) : PE X (.Call (.Attribute o "extend" apos) [e] [] pos) (RE G none Wx C (.bm io .extend ies)) :=
  (pe_bm PySem.F.plainAttrs_list PySem.F.slot_list_extend PySem.F.type_list_extend ((mt_bm (G := G) (ex := none) S.hK .extend).2.1 rfl) ho ha hbase (by rw [hs]; rfl) hline hs rfl).of fun σ H Q h => bm_of (fun _ _ _ _ _ R r q => recv_list (by decide) R r q) h
theorem e_pop (S : Sd G Wx C k X) (ho : PE X o (RE G none Wx C io)) (ha : PA X [e] (REs G none Wx C ies)) (hbase : attributeBase o "pop" X.env (eval o X.env) = eval o X.env := by rfl) (hline : (apos.endLine == pos.line) = true := by rfl)
    (hs : starEach [e] X.env = (false, eval e X.env) :: starEach [] X.env := by rfl) : PE X (.Call (.Attribute o "pop" apos) [e] [] pos) (RE G none Wx C (.bm io .pop ies)) :=
  (pe_bm PySem.F.plainAttrs_list PySem.F.slot_list_pop PySem.F.type_list_pop ((mt_bm (G := G) (ex := none) S.hK .pop).2.2.1 rfl) ho ha hbase (by rw [hs]; rfl) hline hs rfl).of fun σ H Q h => bm_of (fun _ _ _ _ _ R r q => recv_list (by decide) R r q) h
theorem e_join (S : Sd G Wx C k X) (ho : PE X o (RE G none Wx C io)) (ha : PA X [e] (REs G none Wx C ies)) (hbase : attributeBase o "join" X.env (eval o X.env) = eval o X.env := by rfl) (hline : (apos.endLine == pos.line) = true := by rfl)
    (hs : starEach [e] X.env = (false, eval e X.env) :: starEach [] X.env := by rfl) : PE X (.Call (.Attribute o "join" apos) [e] [] pos) (RE G none Wx C (.bm io .join ies)) :=
  (pe_bm PySem.F.plainAttrs_str PySem.F.slot_str_join PySem.F.type_str_join ((mt_bm (G := G) (ex := none) S.hK .join).2.2.2.1 rfl) ho ha hbase (by rw [hs]; rfl) hline hs rfl).of fun σ H Q h => bm_of (fun _ _ _ _ _ R r q => recv_str (.inl rfl) r q) h
theorem e_split (S : Sd G Wx C k X) (ho : PE X o (RE G none Wx C io)) (ha : PA X [e] (REs G none Wx C ies)) (hbase : attributeBase o "split" X.env (eval o X.env) = eval o X.env := by rfl) (hline : (apos.endLine == pos.line) = true := by rfl)
    (hs : starEach [e] X.env = (false, eval e X.env) :: starEach [] X.env := by rfl) : PE X (.Call (.Attribute o "split" apos) [e] [] pos) (RE G none Wx C (.bm io .split ies)) :=
  (pe_bm PySem.F.plainAttrs_str PySem.F.slot_str_split PySem.F.type_str_split ((mt_bm (G := G) (ex := none) S.hK .split).2.2.2.2 rfl) ho ha hbase (by rw [hs]; rfl) hline hs rfl).of fun σ H Q h => bm_of (fun _ _ _ _ _ R r q => recv_str (.inr rfl) r q) h
/-! ### fields -/
theorem RelFs.look {L : Addr → Prop} {H : Hp} {f : Nat} (hI : ∀ f g, G.nm f = G.nm g → f = g) : ∀ {fs : List (Nat × D)} {vs : List (Str × V)} {x : D}, RelFs G L H fs vs → lookN f fs = some x → ∃ v, vs.lookup (G.nm f) = some v ∧ RelD G L H x v
  | _, _, _, .nil, h => by cases h
  | _, _, x, .cons (f := g) (v := v) h hs, e => by
    unfold lookN at e
    by_cases q : f = g
    · subst q
      rw [if_pos rfl] at e
      cases e
      exact ⟨v, by simp, h⟩
    · rw [if_neg q] at e
      obtain ⟨u, e1, r1⟩ := RelFs.look hI hs e
      refine ⟨u, ?_, r1⟩
      rw [List.lookup_cons]
      rw [show (G.nm f == G.nm g) = false from by
        rw [beq_eq_false_iff_ne]
        exact fun z => q (hI _ _ z)]
      exact e1
theorem RelFw.look {L : Addr → Prop} {ρ : Rho} {H : Hp} {f : Nat} (hI : ∀ f g, G.nm f = G.nm g → f = g) : ∀ {fs : List (Nat × W)} {vs : List (Str × V)} {x : W}, RelFw G L ρ H fs vs → lookN f fs = some x → ∃ v, vs.lookup (G.nm f) = some v ∧ RelW G none L ρ H x v
  | _, _, _, .nil, h => by cases h
  | _, _, x, .cons (f := g) (v := v) h hs, e => by
    unfold lookN at e
    by_cases q : f = g
    · subst q
      rw [if_pos rfl] at e
      cases e
      exact ⟨v, by simp, h⟩
    · rw [if_neg q] at e
      obtain ⟨u, e1, r1⟩ := RelFw.look hI hs e
      refine ⟨u, ?_, r1⟩
      rw [List.lookup_cons]
      rw [show (G.nm f == G.nm g) = false from by
        rw [beq_eq_false_iff_ne]
        exact fun z => q (hI _ _ z)]
      exact e1
theorem e_fld {f : Nat} {n : Str} (S : Sd G Wx C k X) (hf : C.P.flds.contains f = true) (hn : G.nm f = n) (ho : PE X o (RE G none Wx C io)) (hb : attributeBase o n X.env (eval o X.env) = eval o X.env := by rfl) : PE X (.Attribute o n pos) (RE G none Wx C (.fld io f)) := by
  subst hn
  exact (pe_fld ho hb).of fun σ H Q ⟨ρ, η, St, R, h0⟩ => rd1 (f := fun o S1 => ofO (fldD C.P o f S1) S1) R h0 fun w v ρ1 S1 H1 R1 e1 r1 h1 => by
    obtain ⟨z, ez, h3⟩ := h1.ofO
    have hfm : f ∈ C.P.flds := by simpa using hf
    cases r1 with
    | d r1 =>
      cases r1 with
      | obj hH nl hs =>
        unfold fldD at ez
        dsimp only at ez
        split at ez
        · next oc =>
          rw [Option.map_eq_some_iff] at ez
          obtain ⟨d, ed, rfl⟩ := ez
          obtain ⟨u, eu, ru⟩ := hs.look S.nmI ed
          exact ⟨_, _, _, _, u, rfl, hH, (S.clf _ oc).cls, (S.clf _ oc).na f hfm, eu, h3.now R1.st _ (.d ru)⟩
        · cases ez
      | _ => cases ez
    | loc hl =>
      unfold fldD at ez
      dsimp only at ez
      split at ez
      · next c fs hc =>
        split at ez
        · next oc =>
          have hcell := R1.st.cell _ _ _ hc hl
          cases hcell with
          | ins hH hs =>
            obtain ⟨u, eu, ru⟩ := hs.look S.nmI ez
            exact ⟨_, _, _, _, u, rfl, hH, (S.clf _ oc).cls, (S.clf _ oc).na f hfm, eu, h3.now R1.st _ ru⟩
        · cases ez
      · cases ez
    | scr h => cases ez
    | exn h => cases h
/-! ### isinstance -/
/-- an expression that is a class -/
def TyE (G : Wd) (X : Cx) (e : Expr) (t : Ty) : Prop := ∃ v, ClsV v (tyVal G t) ∧ PE X e (tC v)
theorem ty_b {t : Ty} {n : String} (S : Sd G Wx C k X) (hg : Gl X x) (hv : bootBuiltins x = some (.type n) := by rfl) (ht : tyVal G t = .type n := by rfl) (hm : x ∈ bltNames := by decide) (hn : x ≠ "__name__" := by decide) (hd : (x == ("__debug__" : Str)) = false := by decide) : TyE G X (.Name x pos) t :=
  ⟨.ty n, ht ▸ .ty n, pe_bltn hg (S.bmg x hm) hv rfl hn hd⟩
theorem ty_c {cd : ClD} (S : Sd G Wx C k X) (hg : Gl X x) (h1 : C.P.cls[i]? = some cd) (hn : cd.name = x) (hd : (x == ("__debug__" : Str)) = false := by decide) : TyE G X (.Name x pos) (.cls i) := by
  subst hn
  exact ⟨.ref (G.ca i), .own _, pe_glob hg (S.cmg i cd h1) rfl hd⟩
theorem tyx_of (S : Sd G Wx C k X) {ρ : Rho} {St : Store} {H : Hp} {w : W} {v : V} {t : Ty} (R : RelS G ρ St H) (r : RelW G none (Live ρ St) ρ H w v) (e : tyName w St = some t) (ok : tyOk0 C.P t = true) : TyX X.K H v (tyVal G t) := by
  have hins : ∀ {a dx c vs}, H a = some (.ins (G.ca c) dx vs) → ordC C.P c = true → TyX X.K H (.ref a) (.ref (G.ca c)) := fun h oc => .base (.ins h (S.clf _ oc).cls (S.clf _ oc).ha (S.clf _ oc).hn (S.clf _ oc).htk (S.clf _ oc).hm)
  cases r with
  | d r =>
    cases r with
    | non => cases e; exact .base .non
    | bl b => cases e; exact .base (.bl b)
    | int j => cases e; exact .base (.int j)
    | str s => cases e; exact .base (.str _)
    | tup h hs =>
      cases e
      rcases h with (h | ⟨o, h⟩) | ⟨o, its, n, h1, h2, _⟩
      · exact .base (.tup h)
      · exact .fTuple h
      · exact .kTuple (o := o) (by rw [S.hK]; exact h1) h2
    | lst h nl hs => cases e; exact .base (.lst h)
    | dic h nl => cases e; exact .base (.dK h)
    | obj h nl hs => cases e; exact hins h ok
    | fn f => cases e
  | loc hl =>
    unfold tyName at e
    dsimp only at e
    split at e
    · next hc => cases e; cases R.cell _ _ _ hc hl with | lst h hs => exact .base (.lst h)
    · next hc => cases e; cases R.cell _ _ _ hc hl with | lsw h hs => exact .base (.lst h)
    · next hc => cases e; cases R.cell _ _ _ hc hl with | dct h f => exact f.elim
    · next hc => cases e; cases R.cell _ _ _ hc hl with | ins h hs => exact hins h ok
    · cases e
  | scr h =>
    cases e
    rcases h with ⟨o, h⟩ | ⟨o, its, n, h1, h2, _⟩
    · exact .base (.frz h)
    · exact .kList (o := o) (by rw [S.hK]; exact h1) h2
  | exn h => cases h
theorem isi_ev {ts : List Ty} {σ : L2.St} {H : Hp} {Q : VK} (S : Sd G Wx C k X) (h : RE G none Wx C (.isi ie ts) σ H Q) (R : V → Hp → Prop)
    (hk : ∀ v H1 t, TyX X.K H1 v (tyVal G t) → tyOk0 C.P t = true → Q (.bl (ts.any fun u => tyIs C.P t u)) H1 → R v H1) : RE G none Wx C ie σ H R := by
  obtain ⟨ρ, η, St, R, h0⟩ := h
  refine rd1 (f := fun x S1 => (ofO (tyName x S1) S1).bind fun t S2 => if tyOk0 C.P t = true then .ok (W.d (.bl (ts.any fun u => tyIs C.P t u))) S2 else .stk) R h0 fun w v ρ1 S1 H1 R1 e1 r1 h1 => ?_
  obtain ⟨z, ez, h3⟩ := h1.ofO_bind
  split at h3
  · next ok => exact hk v H1 z (tyx_of S R1.st r1 ez ok) ok (h3.now R1.st _ (.d (.bl _)))
  · exact h3.elim
theorem e_isi {t : Ty} (S : Sd G Wx C k X) (hg : Gl X "isinstance") (he : PE X e (RE G none Wx C ie)) (ht : TyE G X c t) (hok : tyOk C.P t = true := by rfl)
    (h1 : starEach [e, c] X.env = (false, eval e X.env) :: starEach [c] X.env := by rfl) (h2 : starEach [c] X.env = (false, eval c X.env) :: starEach [] X.env := by rfl) (hpl : (backTo pos (starEach [c] X.env)).any (·.1) = false := by rfl) :
    PE X (.Call (.Name "isinstance" p) [e, c] [] pos) (RE G none Wx C (.isi ie [t])) := by
  obtain ⟨v, hv, hc⟩ := ht
  refine (pe_callB call_isi hg (S.bmg _ (by decide)) (by rfl) (pa_cons he (pa_cons hc pa_nil h2) h1) (by decide) (by decide) h1 hpl).of fun σ H Q h => ?_
  refine isi_ev S h _ fun x H1 tx hx ok q => ⟨x, v, tyVal G tx, tyVal G t, tyIs C.P tx t, rfl, hv, hx, S.kit _ _ ok hok, ?_⟩
  simpa using q
theorem kit_any (S : Sd G Wx C k X) {t : Ty} (ok : tyOk0 C.P t = true) : ∀ ts : List Ty, ts.all (tyOk C.P) = true → PySem.W.kitAny X.K (tyVal G t) (ts.map (tyVal G)) = some (ts.any fun u => tyIs C.P t u)
  | [], _ => kitAny_nil
  | u :: us, h => by
    rw [List.all_cons, Bool.and_eq_true] at h
    refine kitAny_cons (S.kit t u ok h.1) (fun e => ?_) (fun e => ?_)
    · rw [List.any_cons, e, Bool.false_or]; exact kit_any S ok us h.2
    · rw [List.any_cons, e, Bool.true_or]
/-- several classes -/
inductive TyEs (G : Wd) (X : Cx) : List Expr → List Ty → Prop where
  | nil : TyEs G X [] []
  | cons {e : Expr} {t : Ty} {es : List Expr} {ts : List Ty} (h : TyE G X e t) (hs : TyEs G X es ts) (h1 : starEach (e :: es) X.env = (false, eval e X.env) :: starEach es X.env := by rfl) : TyEs G X (e :: es) (t :: ts)
theorem TyEs.pa {es : List Expr} {ts : List Ty} (h : TyEs G X es ts) : ∃ vs, Paired ClsV vs (ts.map (tyVal G)) ∧ vs.length = ts.length ∧ PA X es (fun _ H Q => Q vs H) := by
  induction h with
  | nil => exact ⟨[], .nil, rfl, pa_nil⟩
  | cons h hs h1 ih =>
    obtain ⟨vs, p, l, q⟩ := ih
    obtain ⟨v, hv, hc⟩ := h
    exact ⟨v :: vs, .cons hv p, by simp [l], (pa_cons hc q h1)⟩
theorem e_isiT {ts : List Ty} {cs : List Expr} {kk} (S : Sd G Wx C k X) (hg : Gl X "isinstance") (he : PE X e (RE G none Wx C ie)) (ht : TyEs G X cs ts) (hok : ts.all (tyOk C.P) = true := by rfl) (hl : ts.length ≤ 100 := by decide)
    (h1 : starEach [e, .Tuple cs kk p2] X.env = (false, eval e X.env) :: starEach [.Tuple cs kk p2] X.env := by rfl) (h2 : starEach [.Tuple cs kk p2] X.env = (false, eval (.Tuple cs kk p2) X.env) :: starEach [] X.env := by rfl) (hpl : (backTo pos (starEach [.Tuple cs kk p2] X.env)).any (·.1) = false := by rfl) :
    PE X (.Call (.Name "isinstance" p) [e, .Tuple cs kk p2] [] pos) (RE G none Wx C (.isi ie ts)) := by
  obtain ⟨vs, pv, l, hc⟩ := ht.pa
  refine (pe_callB call_isiT hg (S.bmg _ (by decide)) (by rfl) (pa_cons he (pa_cons (pe_tup hc) pa_nil h2) h1) (by decide) (by decide) h1 hpl).of fun σ H Q h => ?_
  obtain ⟨ρ, η, St, R, h0⟩ := h
  refine rd1 (f := fun x S1 => (ofO (tyName x S1) S1).bind fun t S2 => if tyOk0 C.P t = true then .ok (W.d (.bl (ts.any fun u => tyIs C.P t u))) S2 else .stk) R h0 fun w v ρ1 S1 H1 R1 e1 r1 h1 => ?_
  obtain ⟨z, ez, h3⟩ := h1.ofO_bind
  split at h3
  · next ok =>
    refine ⟨by rw [l]; exact Nat.le_trans hl (by decide), fun q hq => ?_⟩
    have Rn := R1.st.newObj (o := .tup vs) hq
    exact ⟨v, q, vs, tyVal G z, ts.map (tyVal G), _, rfl, upd_same .., pv, tyx_of S Rn (r1.mono (Ext.newObj hq).kp ⟨[], by simp⟩) ez ok, kit_any S ok ts hok, h3.after (Ext.newObj hq) Rn _ (.d (.bl _))⟩
  · exact h3.elim
end
end RI
/-! RI11: == and != of objects of the text's own classes. -/
namespace RI
open PySem PySem.Spec PyProof.Rows L2
section
variable {M : Model} {prog : Program} {w : World} {A : Around} {E : Value → Shared → Prop} {s : Shared} {K : PySem.W.Frag} {x y C f L : Addr} {ox : Obj} {od : Option Obj} {h₀ : Heap} {m : Str → Option Value}
open Builtin in
theorem ne_entry {Q : Fin → Shared → Prop} (hu : A.units < cLine) (X : K.In s.heap) (I : PySem.W.InstAt s.heap x ox C od) (hs : PySem.W.findIn K (.ref C) "__eq__" = some (some (.ref f))) (hf : PySem.W.isFn K (.ref f) = true)
    (hcall : wpAny (model prog w) A (PySem.call (.ref f) [.ref x, .ref y]) (fun v s' => ∃ b, v = .bool b ∧ Q (.done (.ret (.bool (!b)))) s') E s) :
    wpAny (model prog w) A (Builtin.«object.__ne__» ⟨[.ref x, .ref y], []⟩) Q E s := by
  unfold Builtin.«object.__ne__»
  repeat (first
    | with_reducible refine wpAny_cRoomFor hu ?_
    | (refine wpAny_bind (m := callSpecialIfBound? (.ref x) (Str.ofString "__eq__") [.ref y])
        (PySem.W.ifBound_K X I hs hf (wpAny_mono hcall (fun r s' hr => by
          obtain ⟨b, rfl, hq⟩ := hr
          repeat (first | exact hq | exact wpAny_pure hq | exact wpAny_truthy_bool hq | (refine wpAny_bind (m := PySem.truthy (.bool _)) (wpAny_truthy_bool ?_)) | wp_step)) fun _ _ e => e)))
    | wp_step)
theorem ifBound_ne {args : List Value} {Q : Option Value → Shared → Prop} (X : K.In s.heap) (I : PySem.W.InstAt s.heap x ox C od) (hs : PySem.W.findIn K (.ref C) "__ne__" = some (some (.builtin "object.__ne__")))
    (h : wpAny M A (PySem.call (.builtin "object.__ne__") (.ref x :: args)) (fun v => Q (some v)) E s) : wpAny M A (callSpecialIfBound? (.ref x) "__ne__" args) Q E s := by
  simp only [callSpecialIfBound?, bindSpecialIfBound?]
  refine wpAny_holding (wpAny_bind (wpAny_bind (wpAny_bind (I.type.here ((PySem.W.looks_findIn X hs).here ?_)))))
  refine wpAny_bind (wpAny_askSetting (wpAny_ite ?_))
  have fin : wpAny M A (PySem.call (.builtin "object.__ne__") ([.ref x] ++ args) >>= fun v => pure (some v)) Q E s := wpAny_bind (wpAny_mono h (fun v s' h' => wpAny_pure h') fun _ _ h' => h')
  split
  · exact wpAny_bind (wpAny_of_eq (F.cmp_object.ne.bind _) (wpAny_pure (by exact fin)))
  · exact wpAny_tryCatch (wpAny_bind (wpAny_of_eq (F.cmp_object.ne.bind _) (wpAny_pure (by exact fin))))
theorem ne_K {Q : Value → Shared → Prop} {oy : Obj} {oyd : Option Obj} (hu : A.units + 1 < cLine) (X : K.In s.heap) (I : PySem.W.InstAt s.heap x ox C od) (J : PySem.W.InstAt s.heap y oy C oyd) (hm : PySem.W.mroIn K C (.type "object") = some true)
    (hne : PySem.W.findIn K (.ref C) "__ne__" = some (some (.builtin "object.__ne__"))) (hs : PySem.W.findIn K (.ref C) "__eq__" = some (some (.ref f))) (hf : PySem.W.isFn K (.ref f) = true)
    (hcall : wpAny (model prog w) A.in1 (PySem.call (.ref f) [.ref x, .ref y]) (fun v s' => ∃ b, v = .bool b ∧ Q (.bool (!b)) s') E s) : wpAny (model prog w) A (richCompare .NotEq (.ref x) (.ref y)) Q E s := by
  have one : wpAny (model prog w) A (tryCompare (.ref x) "__ne__" (.ref y)) (fun r s' => ∃ v, r = some v ∧ Q v s') E s := by
    unfold tryCompare
    refine wpAny_bind (ifBound_ne X I hne (wpAny_call (codeAny_call_builtin F.cmp_object.ne.plain F.cmpEntry_ne (PySem.W.check_slot F.cmpKind_ne F.cmpSplit_ne (I.type.andThen (PySem.W.looks_mroIn X hm)) (F.cmpArgs_ne _ _)
      (ne_entry (A := A.in1) hu X I hs hf (wpAny_mono hcall (fun v s' hv => ?_) fun _ _ e => e))))))
    obtain ⟨b, rfl, hq⟩ := hv
    first | exact ⟨b, rfl, wpAny_pure ⟨_, rfl, hq⟩⟩ | exact ⟨b, rfl, wpAny_pure (wpAny_pure ⟨_, rfl, hq⟩)⟩ | exact ⟨b, rfl, ⟨_, rfl, hq⟩⟩
  unfold richCompare
  simp only [oneThing_ref]
  rw [cmpInfo_NotEq]
  dsimp only
  refine wpAny_holding (wpAny_bind (wpAny_cRoomFor (Nat.lt_of_succ_lt hu) ?_))
  refine wpAny_bind (I.type.here (wpAny_bind (J.type.here ?_)))
  rw [show (Value.ref C != Value.ref C) = false from by simp]
  simp only [Bool.false_eq_true, if_false]
  refine wpAny_bind (wpAny_pure ?_)
  simp only [Bool.false_eq_true, if_false]
  refine wpAny_bind (wpAny_mono one (fun r s' z => ?_) fun _ _ e => e)
  obtain ⟨v, rfl, hq⟩ := z
  exact wpAny_pure hq
end
section
variable {G : Wd} {Wx : L2.WX} {C : Ctx} {k : Nat} {X : Cx} {pos p p2 apos : Pos} {x : Str} {i : Nat} {a b c e : Expr} {ia ib : IE} {o : COp}
theorem run_at {A : Around} {fd : FuncData} {f : Addr} {ps : List Str} {sp : Sp} {pins : List (Addr × Obj)} {σ : L2.St} {H : Hp} {s : Shared} {Q : VK} {us : List Value} {vs : List V} {E : Value → Shared → Prop} (F : FnOk X.prog X.w X.K X.mg X.base (L2.CX X.prog X.w) k f fd ps sp) (hr : Room k A) (fr : A.frames = X.A.frames) (hb : Binds X.K fd ps [])
    (I : Inv X pins σ H s) (r : Vals vs us) (h : sp vs H Q (fun _ _ _ => False)) : wpAny (model X.prog X.w) A (PySem.call (.ref f) us) (EP X pins σ Q) E s := by
  have hl := F.len _ _ _ _ h
  have e0 : Env0 X.prog X.w X.K X.mg X.base A X.stack s H := by
    have e := I.env0
    exact ⟨by rw [fr]; exact e.frames, e.mod, e.bs, e.bsz, e.funs, e.frf, e.hok, e.bare⟩
  refine wpAny_call (codeAny_mono (F.run A X.stack s H ⟨us, []⟩ us vs _ _ hr e0 (by
    have := hb s us I.kIn (by rw [List.append_nil, ← r.length]; exact hl)
    simpa using this) r h) fun r s' hq => ?_)
  cases r with
  | error e =>
    obtain ⟨a, B, H', cls, d, h1⟩ := hq
    exact (h1.2.2.2.2.2.2.2).elim
  | ok fl =>
    cases fl with
    | ret w => exact I.after hq
    | next => exact False.elim hq
    | brk => exact False.elim hq
    | cont => exact False.elim hq
theorem clsOf_ins {ρ : Rho} {S : Store} {H : Hp} {w : W} {v : V} {c : Nat} (R : RelS G ρ S H) (r : RelW G none (Live ρ S) ρ H w v) (e : clsOf w S = some c) : ∃ a dx vs, v = .ref a ∧ H a = some (.ins (G.ca c) dx vs) := by
  cases r with
  | d r =>
    cases r with
    | obj h nl hs => cases e; exact ⟨_, _, _, rfl, h⟩
    | _ => cases e
  | loc hl =>
    unfold clsOf at e
    dsimp only at e
    split at e
    · next hc => cases e; cases R.cell _ _ _ hc hl with | ins h hs => exact ⟨_, _, _, rfl, h⟩
    · cases e
  | scr h => cases e
  | exn h => cases h
theorem Sat.quiet {α : Type} {ρ : Rho} {S : Store} {H : Hp} {W1 W2 : XK} {r : Res α} {P : α → Rho → Store → Hp → Prop} (n : ∀ c fs S', r ≠ .exc c fs S') (h : Sat G W1 ρ S H r P) : Sat G W2 ρ S H r P := by
  cases r with
  | ok a S' => exact h
  | exc c fs S' => exact (n c fs S' rfl).elim
  | stk => exact h
theorem Sat.calm_bind {α β : Type} {ρ : Rho} {S : Store} {H : Hp} {W1 W2 : XK} {r : Res α} {f : α → Store → Res β} {P : β → Rho → Store → Hp → Prop} (h : Sat G W1 ρ S H ((noExc r).bind f) P) :
    Sat G W2 ρ S H r fun a ρ1 S1 H1 => Ext ρ S H ρ1 S1 H1 ∧ RelS G ρ1 S1 H1 ∧ Sat G W1 ρ1 S1 H1 (f a S1) P := by
  cases r with
  | ok a S' => exact fun ρ' H' e R => ⟨e, R, Sat.from e h⟩
  | exc c fs S' => exact h.elim
  | stk => exact h
def rEqW (G : Wd) (C : Ctx) (o : COp) : R2 := fun x y H Q => ∃ ρ S a b, RelS G ρ S H ∧ RelW G none (Live ρ S) ρ H a x ∧ RelW G none (Live ρ S) ρ H b y ∧
  Sat G (fun _ _ _ => False) ρ S H (cmpW C o a b S) fun w ρ' S' H' => ∀ v, RelW G none (Live ρ' S') ρ' H' w v → Q v H'
theorem cmpW_noexc {a b : W} {S : Store} : ∀ c fs S', cmpW C o a b S ≠ .exc c fs S' := by
  intro c fs S' h
  have h1 : ∀ (q : Option Bool) (g : Bool → D), ((ofO q S).bind fun k S1 => Res.ok (W.d (g k)) S1) ≠ .exc c fs S' := by
    intro q g; cases q <;> (intro z; cases z)
  have h2 : ∀ (r : Res W) (g : Bool → D), ((noExc r).bind fun w S1 => match w with
      | .d (.bl k) => Res.ok (W.d (g k)) S1
      | _ => .stk) ≠ .exc c fs S' := by
    intro r g
    cases r with
    | ok w S1 =>
      rw [noExc_ok, Res.bind_ok]
      split <;> (intro z; cases z)
    | exc _ _ _ => intro z; cases z
    | stk => intro z; cases z
  cases o with
  | eq =>
    unfold cmpW at h
    dsimp only at h
    split at h
    · exact h2 _ .bl h
    · exact h1 _ .bl h
  | ne =>
    unfold cmpW at h
    dsimp only at h
    split at h
    · exact h2 _ (fun k => .bl (!k)) h
    · exact h1 _ .bl h
  | _ => exact h1 _ .bl h
theorem or_eqW (S : Sd G Wx C k X) (ho : o = .eq ∨ o = .ne) : OpR X (compareOp o.op) (rEqW G C o) := by
  intro pins s σ H x y v u Q I rx ry ⟨ρ, St, wa, wb, R, ra, rb, h⟩
  cases hq : eqOwn C wa wb St with
  | none =>
    have e : cmpW C o wa wb St = (ofO (cmpD o wa wb St) St).bind fun k S1 => .ok (.d (.bl k)) S1 := by
      rcases ho with rfl | rfl <;> (unfold cmpW; dsimp only; rw [hq])
    rw [e] at h
    obtain ⟨z, ez, h4⟩ := h.ofO_bind
    exact or_cmp (o := o) (G := G) (ex := none) S.hK (by have := S.un; omega) pins s σ H x y v u Q I rx ry ⟨ρ, St, wa, wb, z, R, ra, rb, ez, h4.now R _ (.d (.bl z))⟩
  | some f =>
    have hq' := hq
    unfold eqOwn at hq
    split at hq
    · next c c' ec ec' =>
      split at hq
      · next e =>
        subst e
        split at hq
        · next d hd =>
          obtain ⟨a, dx, vs, rfl, ha⟩ := clsOf_ins R ra ec
          obtain ⟨b, dy, us, rfl, hb⟩ := clsOf_ins R rb ec'
          obtain ⟨EF, fd, hfd, hnp⟩ := S.eqm c d f hd hq
          obtain ⟨fdat, ps, hps, F, hbd⟩ := (S.fok f fd hfd).ex
          cases rx
          cases ry
          obtain ⟨mA, J, _⟩ := ins_get I.hok ha
          obtain ⟨mB, J', _⟩ := ins_get I.hok hb
          obtain ⟨od, J, _⟩ := J.look
          obtain ⟨od', J', _⟩ := J'.look
          obtain ⟨m, hF⟩ := I.fr
          have r2 : Vals [V.ref a, V.ref b] [Value.ref a, Value.ref b] := .cons rfl (.cons rfl .nil)
          rcases ho with rfl | rfl
          · unfold cmpW at h
            dsimp only at h
            rw [hq'] at h
            dsimp only at h
            show wpAny (model X.prog X.w) X.A (richCompare .Eq (.ref a) (.ref b)) _ X.xe s
            refine PySem.W.cmp_K (op := .Eq) (tb := .ref (G.ca c)) S.room.units0 hF I.ok.mod.kin J J'.type (by simp [PySem.W.notFirst]) EF.eq EF.fn ?_
            refine wpAny_mono (run_at F (S.room.mono (Nat.le_succ _)) rfl hbd I r2 (Q := fun v H' => ∃ kb, v = .bl kb ∧ Q (.bl kb) H') ⟨ρ, St, [wa, wb], R, .cons ra (.cons rb .nil), by rw [hnp]; rfl, h.calm_bind.mono fun w ρ1 S1 H1 e1 R1 ⟨_, _, h3⟩ v rv => ?_⟩) (fun r s' z => ?_) (fun _ _ q => q)
            · cases rv with
              | d rv =>
                cases rv with
                | bl kb => exact ⟨kb, rfl, h3.now R1 _ (.d (.bl kb))⟩
                | _ => exact h3.elim
              | _ => exact h3.elim
            · obtain ⟨v, H', I', rv, kb, rfl, q⟩ := z
              cases rv
              exact ⟨.bl kb, H', I', rfl, q⟩
          · unfold cmpW at h
            dsimp only at h
            rw [hq'] at h
            dsimp only at h
            show wpAny (model X.prog X.w) X.A (richCompare .NotEq (.ref a) (.ref b)) _ X.xe s
            refine ne_K (by have := S.un; omega) I.kIn J J' EF.hm EF.ne EF.eq EF.fn ?_
            refine wpAny_mono (run_at F S.room.in1 rfl hbd I r2 (Q := fun v H' => ∃ kb, v = .bl kb ∧ Q (.bl (!kb)) H') ⟨ρ, St, [wa, wb], R, .cons ra (.cons rb .nil), by rw [hnp]; rfl, h.calm_bind.mono fun w ρ1 S1 H1 e1 R1 ⟨_, _, h3⟩ v rv => ?_⟩) (fun r s' z => ?_) (fun _ _ q => q)
            · cases rv with
              | d rv =>
                cases rv with
                | bl kb => exact ⟨kb, rfl, h3.now R1 _ (.d (.bl (!kb)))⟩
                | _ => exact h3.elim
              | _ => exact h3.elim
            · obtain ⟨v, H', I', rv, kb, rfl, q⟩ := z
              cases rv
              exact ⟨kb, rfl, .bl (!kb), H', I', rfl, q⟩
        · cases hq
      · cases hq
    · cases hq
theorem cmpW_bl {a b w : W} {S S' : Store} (h : cmpW C o a b S = .ok w S') : ∃ k, w = .d (.bl k) := by
  have h1 : ∀ (q : Option Bool), ((ofO q S).bind fun k S1 => Res.ok (W.d (.bl k)) S1) = .ok w S' → ∃ k, w = .d (.bl k) := by
    intro q z
    cases q with
    | none => cases z
    | some k => cases z; exact ⟨k, rfl⟩
  have h2 : ∀ (r : Res W) (g : Bool → Bool), ((noExc r).bind fun w S1 => match w with
      | .d (.bl k) => Res.ok (W.d (.bl (g k))) S1
      | _ => .stk) = .ok w S' → ∃ k, w = .d (.bl k) := by
    intro r g z
    cases r with
    | ok w S1 =>
      rw [noExc_ok, Res.bind_ok] at z
      split at z
      · cases z; exact ⟨_, rfl⟩
      · cases z
    | exc _ _ _ => cases z
    | stk => cases z
  cases o with
  | eq =>
    unfold cmpW at h
    dsimp only at h
    split at h
    · exact h2 _ id h
    · exact h1 _ h
  | ne =>
    unfold cmpW at h
    dsimp only at h
    split at h
    · exact h2 _ (fun k => !k) h
    · exact h1 _ h
  | _ => exact h1 _ h
theorem Sat.and {α : Type} {ρ : Rho} {S : Store} {H : Hp} {W1 : XK} {r : Res α} {P : α → Rho → Store → Hp → Prop} {φ : α → Prop} (n : ∀ a S', r = .ok a S' → φ a) (h : Sat G W1 ρ S H r P) : Sat G W1 ρ S H r fun a ρ' S' H' => φ a ∧ P a ρ' S' H' := by
  cases r with
  | ok a S' => exact fun ρ' H' e R => ⟨n a S' rfl, h ρ' H' e R⟩
  | exc c fs S' => exact h
  | stk => exact h
/-- == and !=, of objects too -/
theorem e_eq {op : CmpOp} (S : Sd G Wx C k X) (ha : PE X a (RE G none Wx C ia)) (hb : PE X b (RE G none Wx C ib)) (hq : o = .eq ∨ o = .ne := by decide) (hm : behindInMarks op b = false := by with_unfolding_all rfl) (ho : op = o.op := by rfl) :
    PE X (.Compare a [op] [b] pos) (RE G none Wx C (.cmp o ia ib)) := by
  subst ho
  exact (pe_cmpR (or_eqW S hq) ha hb hm).of fun σ H Q ⟨ρ, η, St, R, h0⟩ => rd1 (f := fun x S1 => ((evalP C ib).1 η S1).bind fun y S2 => cmpW C o x y S2) R h0 fun w v ρ1 S1 H1 R1 e1 r1 h1 =>
    rd1 R1 h1 fun w2 v2 ρ2 S2 H2 R2 e2 r2 h2 => ⟨ρ2, S2, w, w2, R2.st, r1.mono e2.kp e2.pre, r2, h2.quiet cmpW_noexc⟩
theorem t_eq {op : CmpOp} (S : Sd G Wx C k X) (ha : PE X a (RE G none Wx C ia)) (hb : PE X b (RE G none Wx C ib)) (hq : o = .eq ∨ o = .ne := by decide) (hm : behindInMarks op b = false := by with_unfolding_all rfl) (ho : op = o.op := by rfl) :
    PT X (.Compare a [op] [b] pos) (RT G none Wx C (.cmp o ia ib)) := by
  subst ho
  exact (pt_cmpR (or_eqW S hq) ha hb hm).of fun σ H Q ⟨ρ, η, St, R, h0⟩ => by
    replace h0 : Sat G (fun c d H => Wx c d σ H) ρ St H ((((evalP C ia).1 η St).bind fun x S1 => ((evalP C ib).1 η S1).bind fun y S2 => cmpW C o x y S2).bind fun x S1 => ofO (truthy x S1) S1) _ := h0
    rw [Res.bind_assoc] at h0
    refine rd1 R h0 fun w v ρ1 S1 H1 R1 e1 r1 h1 => ?_
    rw [Res.bind_assoc] at h1
    refine rd1 R1 h1 fun w2 v2 ρ2 S2 H2 R2 e2 r2 h2 => ⟨ρ2, S2, w, w2, R2.st, r1.mono e2.kp e2.pre, r2, ?_⟩
    refine ((h2.bind.quiet (W2 := fun _ _ _ => False) cmpW_noexc).and (φ := fun w => ∃ k, w = .d (.bl k)) fun w S' e => cmpW_bl e).mono fun w3 ρ3 S3 H3 e3 R3 ⟨⟨kb, hk⟩, _, _, h3⟩ v r3 => ?_
    subst hk
    obtain ⟨z, ez, h4⟩ := h3.ofO
    cases ez
    cases r3 with | d r3 => cases r3 with | bl _ => exact ⟨kb, rfl, h4.now R3⟩
end
end RI
/-! RI12: targets, iterators. -/
namespace RI
open PySem PySem.Spec PyProof.Rows L2
abbrev noX : XK := fun _ _ _ => False
/-- σ' is σ but for those names -/
def SameBut (vs : List Nat) (σ σ' : L2.St) : Prop := ∀ own : List Nat, (∀ v ∈ vs, v ∈ own) → wipe σ' own = wipe σ own
mutual
def ITs.names : ITs → List Nat
  | .nil => []
  | .cons t ts => IT.names t ++ ITs.names ts
def IT.names : IT → List Nat
  | .nm i => [i]
  | .tup ts => ITs.names ts
  | _ => []
end
def RdG (G : Wd) (ns : List Nat) (m : W → Env → Store → Res Env) : TG := fun v σ H Q => ∃ ρ η S w, RelAll G none ρ η S σ H ∧ RelW G none (Live ρ S) ρ H w v ∧
  Sat G noX ρ S H (noExc (m w η S)) fun η' ρ' S' H' => ∀ σ', RelAll G none ρ' η' S' σ' H' → SameBut ns σ σ' → Q σ' H'
def RdGs (G : Wd) (ns : List Nat) (m : List D → Env → Store → Res Env) : TGs := fun vs σ H Q => ∃ ρ η S xs, RelAll G none ρ η S σ H ∧ RelDs G (Live ρ S) H xs vs ∧
  Sat G noX ρ S H (noExc (m xs η S)) fun η' ρ' S' H' => ∀ σ', RelAll G none ρ' η' S' σ' H' → SameBut ns σ σ' → Q σ' H'
theorem noExc_bind {α β : Type} (r : Res α) (f : α → Store → Res β) : noExc (r.bind f) = (noExc r).bind fun a S => noExc (f a S) := by cases r <;> rfl
theorem _root_.L2.PG.of {X : Cx} {e : Expr} {t t' : TG} (h : PG X e t) (k : ∀ v σ H Q, t' v σ H Q → t v σ H Q) : PG X e t' := ⟨fun pins s σ H v u Q I r q => h.run pins s σ H v u Q I r (k v σ H Q q)⟩
theorem _root_.L2.PGs.of {X : Cx} {e : List Expr} {t t' : TGs} (h : PGs X e t) (k : ∀ v σ H Q, t' v σ H Q → t v σ H Q) : PGs X e t' := ⟨fun pins s σ H v u Q I r q => h.run pins s σ H v u Q I r (k v σ H Q q)⟩
theorem _root_.L2.PI.of {X : Cx} {tg e : Expr} {t t' : TI} (h : PI X tg e t) (k : ∀ σ H Q, t' σ H Q → t σ H Q) : PI X tg e t' := ⟨fun pins s σ H Q I q => h.run pins s σ H Q I (k σ H Q q)⟩
section
variable {G : Wd} {Wx : L2.WX} {C : Ctx} {k : Nat} {X : Cx} {pos p p2 apos : Pos} {x : Str} {i : Nat} {a b c e o : Expr} {ia ib ie io ii : IE}
/-- no error comes: any wish about errors will do -/
theorem Sat.nx {α : Type} {ρ : Rho} {S : Store} {H : Hp} {W1 W2 : XK} {r : Res α} {P : α → Rho → Store → Hp → Prop} (h : Sat G W1 ρ S H (noExc r) P) : Sat G W2 ρ S H r P := by
  cases r with
  | ok a S' => exact h
  | exc c fs S' => exact h.elim
  | stk => exact h
theorem Sat.nx' {α : Type} {ρ : Rho} {S : Store} {H : Hp} {W1 W2 : XK} {r : Res α} {P : α → Rho → Store → Hp → Prop} (h : Sat G W1 ρ S H (noExc r) P) : Sat G W2 ρ S H (noExc r) P := by
  cases r with
  | ok a S' => exact h
  | exc c fs S' => exact h
  | stk => exact h
theorem Sat.bindN {α β : Type} {ρ : Rho} {S : Store} {H : Hp} {W1 W2 : XK} {r : Res α} {f : α → Store → Res β} {P : β → Rho → Store → Hp → Prop} (h : Sat G W1 ρ S H ((noExc r).bind f) P) :
    Sat G W2 ρ S H (noExc r) fun a ρ1 S1 H1 => Ext ρ S H ρ1 S1 H1 ∧ RelS G ρ1 S1 H1 ∧ Sat G W1 ρ1 S1 H1 (f a S1) P := by
  cases r with
  | ok a S' => exact fun ρ' H' e R => ⟨e, R, Sat.from e h⟩
  | exc c fs S' => exact h
  | stk => exact h
theorem wipe_get (σ : L2.St) (j : Nat) : ∀ vs : List Nat, (wipe σ vs)[j]? = if j ∈ vs then σ[j]?.map (fun _ => none) else σ[j]?
  | [] => by simp [wipe]
  | v :: vs => by
    show ((wipe σ vs).set v none)[j]? = _
    by_cases e : j = v
    · subst e
      rw [List.getElem?_set]
      have := wipe_length σ vs
      simp only [if_true, List.mem_cons, true_or]
      rw [this]
      by_cases h : j < σ.length
      · rw [if_pos h, List.getElem?_eq_getElem h] <;> rfl
      · rw [if_neg h, List.getElem?_eq_none (by omega)] <;> rfl
    · rw [List.getElem?_set_ne (Ne.symm e), wipe_get σ j vs]
      simp [e]
theorem same_set (i : Nat) (v : Option V) {σ : L2.St} : SameBut [i] σ (σ.set i v) := by
  intro own h
  have hi := h i (List.mem_singleton.mpr rfl)
  apply List.ext_getElem?
  intro j
  rw [wipe_get, wipe_get]
  by_cases e : j = i
  · subst e
    rw [if_pos hi, if_pos hi, List.getElem?_set]
    simp only [if_true]
    by_cases h : j < σ.length
    · rw [if_pos h, List.getElem?_eq_getElem h] <;> rfl
    · rw [if_neg h, List.getElem?_eq_none (by omega)] <;> rfl
  · rw [List.getElem?_set_ne (Ne.symm e)]
theorem SameBut.refl (vs : List Nat) (σ : L2.St) : SameBut vs σ σ := fun _ _ => rfl
theorem SameBut.trans {v1 v2 : List Nat} {σ σ1 σ2 : L2.St} (a : SameBut v1 σ σ1) (b : SameBut v2 σ1 σ2) : SameBut (v1 ++ v2) σ σ2 := fun own h =>
  (b own fun v hv => h v (List.mem_append_right _ hv)).trans (a own fun v hv => h v (List.mem_append_left _ hv))
theorem g_nm (S : Sd G Wx C k X) (hi : X.N[i]? = some x) (hx : Loc X.env.scope x) (hf : X.fn x = true ∨ X.env.scope.names.lookup x = some .local := by first | exact .inl rfl | exact .inr rfl | assumption) : PG X (.Name x pos) (RdG G (IT.names (.nm i)) (setT C (.nm i))) :=
  (pg_name S.nd hi hx hf).of fun v σ H Q ⟨ρ, η, St, w, R, r, h⟩ => by
    replace h : Sat G noX ρ St H (noExc (if i < η.length then .ok (η.set i (some w)) St else .stk)) _ := h
    split at h
    · next hl => exact h.now R.st _ (R.set r hl) (same_set i _)
    · exact h.elim
theorem gs_nil : PGs X [] (RdGs G (ITs.names .nil) (setTs C .nil)) := pgs_nil.of fun vs σ H Q ⟨ρ, η, St, xs, R, r, h⟩ => by
  cases r with
  | nil => exact ⟨rfl, (show Sat G noX ρ St H (noExc (.ok η St)) _ from h).now R.st _ R (SameBut.refl _ _)⟩
  | cons a b => exact (show False from h).elim
theorem gs_cons {t : IT} {ts : ITs} {es : List Expr} (h1 : PG X e (RdG G (IT.names t) (setT C t))) (h2 : PGs X es (RdGs G (ITs.names ts) (setTs C ts))) (hs : (assignEach (e :: es) X.env).map (·.2) = assign e X.env :: (assignEach es X.env).map (·.2) := by rfl) : PGs X (e :: es) (RdGs G (ITs.names (.cons t ts)) (setTs C (.cons t ts))) :=
  (pgs_cons h1 h2 hs).of fun vs σ H Q ⟨ρ, η, St, xs, R, r, h⟩ => by
    cases r with
    | nil => exact (show False from h).elim
    | @cons x v xs vs ra rb =>
      replace h : Sat G noX ρ St H (noExc ((setT C t (.d x) η St).bind fun η1 S1 => setTs C ts xs η1 S1)) _ := h
      rw [noExc_bind] at h
      exact ⟨v, vs, rfl, ρ, η, St, .d x, R, .d ra, h.bindN.mono fun η1 ρ1 S1 H1 _ _ ⟨e1, R1, h2⟩ σ' R' sb => ⟨ρ1, η1, S1, xs, R', rb.mono e1.kp, h2.mono fun η2 ρ2 S2 H2 _ _ q σ2 R2 sb2 => q σ2 R2 (sb.trans sb2)⟩⟩
def ITs.len : ITs → Nat
  | .nil => 0
  | .cons _ ts => ts.len + 1
theorem setTs_len {C : Ctx} : ∀ (ts : ITs) (xs : List D) (η : Env) (S : Store) (η' : Env) (S' : Store), setTs C ts xs η S = .ok η' S' → xs.length = ts.len
  | .nil, [], _, _, _, _, _ => rfl
  | .nil, _ :: _, _, _, _, _, h => nomatch h
  | .cons t ts, [], _, _, _, _, h => nomatch h
  | .cons t ts, x :: xs, η, S, η', S', h => by
    replace h : ((setT C t (.d x) η S).bind fun η1 S1 => setTs C ts xs η1 S1) = .ok η' S' := h
    cases h1 : setT C t (.d x) η S with
    | ok η1 S1 =>
      rw [h1, Res.bind_ok] at h
      exact congrArg (· + 1) (setTs_len ts xs η1 S1 _ _ h)
    | exc c fs S2 => rw [h1] at h; cases h
    | stk => rw [h1] at h; cases h
theorem g_tup {ts : ITs} {es : List Expr} {kk : Nat} (S : Sd G Wx C k X) (h : PGs X es (RdGs G (ITs.names ts) (setTs C ts))) (hn : (assignEach es X.env).length = ts.len := by rfl) (hst : (assignEach es X.env).findIdx? (·.1) = none := by rfl) :
    PG X (.Tuple es kk pos) (RdG G (IT.names (.tup ts)) (setT C (.tup ts))) :=
  (pg_tup S.calm h hn hst).of fun v σ H Q ⟨ρ, η, St, w, R, r, h⟩ => by
    replace h : Sat G noX ρ St H (noExc (match seqOf w St with
      | some (.tup, xs) => setTs C ts xs η St
      | _ => .stk)) _ := h
    split at h
    · next xs e =>
      obtain ⟨a, vs, rfl, hk, hs⟩ := r.seqOf R.st e
      rcases hk with ⟨_, hk⟩ | ⟨z, _⟩
      · refine ⟨a, vs, rfl, by rw [S.hK]; exact hk, ?_, ρ, η, St, xs, R, hs, h⟩
        cases hr : setTs C ts xs η St with
        | ok η1 S1 => rw [← hs.length]; exact setTs_len ts xs η St _ _ hr
        | exc c fs S1 => rw [hr] at h; exact h.elim
        | stk => rw [hr] at h; exact h.elim
      · cases z
    · exact h.elim
/-! ### stores into a list, a field -/
def rSetW (G : Wd) : TSet := fun o i v H Q => ∃ ρ S wo wi w, RelS G ρ S H ∧ RelW G none (Live ρ S) ρ H wo o ∧ RelW G none (Live ρ S) ρ H wi i ∧ RelW G none (Live ρ S) ρ H w v ∧
  Sat G noX ρ S H (noExc (setSub wo wi w S)) fun _ ρ' S' H' => Q H'
theorem set_w : PSet X (rSetW G) := by
  intro pins s σ H o i v ov iv u Q I ro ri rv ⟨ρ, St, wo, wi, w, R, r1, r2, r3, h⟩
  refine set_list pins s σ H o i v ov iv u Q I ro ri rv ?_
  unfold setSub at h
  cases r1 with
  | loc hl =>
    cases r2 with
    | d r2 =>
      cases r2 with
      | int j =>
        dsimp only at h
        split at h
        · next xs hc =>
          split at h
          · next m hm =>
            rw [noExc_bind] at h
            cases hcell : (R.cell _ _ _ hc hl) with
            | lst hH hs =>
              rename_i a vs
              have hx := h
              rw [show noExc (toD w St) = toD w St from by rcases toD_cases w St with ⟨x, S1, e⟩ | e <;> rw [e] <;> rfl] at hx
              obtain ⟨x, S1, e1, R1, rx, h2⟩ := Sat.toD_bind R r3 hx
              split at h2
              · next xs' hc' =>
                cases R1.cell _ _ _ hc' hl with
                | lst hH' hs' =>
                  rename_i vs'
                  rw [hH] at hH'
                  cases hH'
                  refine ⟨_, vs, j, m, rfl, rfl, hH, by rw [← hs.length]; exact hm, ?_⟩
                  have al : alive (.lst xs') = true := rfl
                  have e2 := Ext.setCell (c' := .lst (xs'.set m x)) (o := .lst (vs.set m v)) R1 hc' al hl
                  exact h2 ρ _ e2 (R1.setCell hc' al hl (.lst (upd_same ..) ((hs'.set rx m).mono e2.kp)))
              · exact h2.elim
          · exact h.elim
        · next ws hc =>
          split at h
          · next m hm =>
            cases R.cell _ _ _ hc hl with
            | lsw hH hs =>
              rename_i vs
              refine ⟨_, vs, j, m, rfl, rfl, hH, by rw [← hs.length]; exact hm, ?_⟩
              have al : alive (.lsw ws) = true := rfl
              have e2 := Ext.setCell (c' := .lsw (ws.set m w)) (o := .lst (vs.set m v)) R hc al hl
              exact h ρ _ e2 (R.setCell hc al hl (.lsw (upd_same ..) ((hs.set r3 m).mono e2.kp e2.pre)))
          · exact h.elim
        · exact h.elim
      | _ => exact h.elim
    | _ => exact h.elim
  | _ => exact h.elim
theorem g_sub (S : Sd G Wx C k X) (ho : PE X o (RE G none Wx C io)) (hi : PE X e (RE G none Wx C ii))
    (ha : ∀ v, assign (.Subscript o e pos) X.env v = (do
      let ov ← holding [v] (eval o X.env)
      let iv ← holding [v, ov] (eval e X.env)
      standAt pos
      holding [v, ov, iv] (setItem ov iv v)
      release [v, ov, iv] []) := by intro _; rfl) : PG X (.Subscript o e pos) (RdG G (IT.names (.sub io ii)) (setT C (.sub io ii))) :=
  (pg_sub ho hi (set_w (G := G)) ha).of fun v σ H Q ⟨ρ, η, St, w, R, r, h⟩ => by
    replace h : Sat G noX ρ St H (noExc (((evalP C io).1 η St).bind fun x S1 => ((evalP C ii).1 η S1).bind fun k S2 => (setSub x k w S2).bind fun _ S3 => .ok η S3)) _ := h
    rw [noExc_bind] at h
    refine ⟨ρ, η, St, R, (Sat.nx (W1 := noX) h.bindN).mono fun wo ρ1 S1 H1 _ _ ⟨e1, R1, h1⟩ vo ro => ?_⟩
    rw [noExc_bind] at h1
    refine ⟨ρ1, η, S1, R.mono e1 R1, (Sat.nx (W1 := noX) h1.bindN).mono fun wi ρ2 S2 H2 _ _ ⟨e2, R2, h2⟩ vi ri => ?_⟩
    rw [noExc_bind] at h2
    have R12 := (R.mono e1 R1).mono e2 R2
    exact ⟨ρ2, S2, wo, wi, w, R2, ro.mono e2.kp e2.pre, ri, (r.mono e1.kp e1.pre).mono e2.kp e2.pre, h2.bindN.mono fun _ ρ3 S3 H3 _ _ ⟨e3, R3, h3⟩ => h3.now R3 _ (R12.mono e3 R3) (SameBut.refl _ _)⟩
end
end RI
/-! RI13: what loops run over. -/
namespace RI
open PySem PySem.Spec PyProof.Rows L2

/-- what the iterators ask of a later state -/
structure EK (ρ : Rho) (S : Store) (H : Hp) (ρ' : Rho) (S' : Store) (H' : Hp) : Prop where
  kp : Kp (Live ρ S) H (Live ρ' S') H'
  pre : ∃ t, ρ'.l = ρ.l ++ t
  dom : ∀ a, H a ≠ none → H' a ≠ none
theorem Ext.ek {ρ ρ' : Rho} {S S' : Store} {H H' : Hp} (e : Ext ρ S H ρ' S' H') : EK ρ S H ρ' S' H' := ⟨e.kp, by obtain ⟨t, h⟩ := e.pre; exact ⟨t, by rw [h]; rfl⟩, e.dom⟩
/-- the items are known and stay -/
structure FixIt (G : Wd) (ρ : Rho) (S : Store) (H : Hp) (J : It) (xs : List D) : Prop where
  go : ∀ i ρ' S' H', EK ρ S H ρ' S' H' → RelS G ρ' S' H' → i < xs.length → J.go i H'
  yld : ∀ i d v ρ' S' H' H'', EK ρ S H ρ' S' H' → RelS G ρ' S' H' → xs[i]? = some d → J.yld i H' v H'' → Ext ρ' S' H' ρ' S' H'' ∧ RelS G ρ' S' H'' ∧ RelD G (Live ρ' S') H'' d v
  stop : ∀ ρ' S' H', EK ρ S H ρ' S' H' → RelS G ρ' S' H' → J.stop xs.length H'
/-- the list of a cell, as it stands at each turn -/
structure LocIt (G : Wd) (ρ : Rho) (S : Store) (H : Hp) (J : It) (l : Nat) : Prop where
  go : ∀ (i : Nat) ys d ρ' S' H', EK ρ S H ρ' S' H' → RelS G ρ' S' H' → S'[l]? = some (.lst ys) → ys[i]? = some d → J.go i H'
  yld : ∀ (i : Nat) ys d v ρ' S' H' H'', EK ρ S H ρ' S' H' → RelS G ρ' S' H' → S'[l]? = some (.lst ys) → ys[i]? = some d → J.yld i H' v H'' → H'' = H' ∧ RelD G (Live ρ' S') H' d v
  stop : ∀ (i : Nat) ys ρ' S' H', EK ρ S H ρ' S' H' → RelS G ρ' S' H' → S'[l]? = some (.lst ys) → ys.length ≤ i → J.stop i H'
def ItOk (G : Wd) (ρ : Rho) (S : Store) (H : Hp) (J : It) : Src → Prop
  | .fix xs => FixIt G ρ S H J xs
  | .loc l _ => LocIt G ρ S H J l
def RdI (G : Wd) (Wx : L2.WX) (m : Env → Store → Res Src) : TI := fun σ H R => ∃ ρ η S, RelAll G none ρ η S σ H ∧
  Sat G (fun c d H => Wx c d σ H) ρ S H (m η S) fun src ρ' S' H' => ∀ J, ItOk G ρ' S' H' J src → R J H'
section
variable {G : Wd} {ρ : Rho} {S : Store} {H : Hp} {K : PySem.W.Frag} {a : Addr} {xs : List D} {vs : List V}
/-- a sequence that stays as it is -/
def Stays (ρ : Rho) (S : Store) (k : SK) (K : PySem.W.Frag) (H : Hp) (a : Addr) (vs : List V) : Prop := ∀ ρ' S' H', EK ρ S H ρ' S' H' → Sq k K H' a vs
theorem stays_tup (h : SqT K H a vs) : Stays ρ S .tup K H a vs := fun ρ' S' H' e => e.kp.sqT h
theorem stays_lst (h : H a = some (.lst vs)) (n : ¬ Live ρ S a) : Stays ρ S .lst K H a vs := fun ρ' S' H' e => SqL.of (e.kp.keep a _ h fun z => absurd z n)
theorem stays_scr (h : ScrL K H a vs) : Stays ρ S .lst K H a vs := fun ρ' S' H' e => by
  rcases h with ⟨o, h⟩ | h
  · exact .inl (.inr ⟨o, e.kp.keep a _ h fun _ => trivial⟩)
  · exact .inr h
/-- all sequences but cells stay -/
theorem stays_of {k : SK} {w : W} {v : V} (r : RelW G none (Live ρ S) ρ H w v) (e : seqOf w S = some (k, xs)) (hw : ∀ l, w ≠ .loc l) : ∃ a vs, v = .ref a ∧ Stays ρ S k G.K H a vs ∧ RelDs G (Live ρ S) H xs vs := by
  cases r with
  | d r =>
    cases r with
    | tup h hs => cases e; exact ⟨_, _, rfl, stays_tup h, hs⟩
    | lst h n hs => cases e; exact ⟨_, _, rfl, stays_lst h n, hs⟩
    | _ => cases e
  | loc h => exact absurd rfl (hw _)
  | scr h => cases e; exact ⟨_, _, rfl, stays_scr h, RelDs.ints _⟩
  | exn h => cases h
theorem sqL_inj_len : True := trivial
/-- the plain iterator of a sequence -/
def ItS (k : SK) (K : PySem.W.Frag) (a : Addr) : It := match k with
  | .tup => Itt K a
  | .lst => Itl K a
theorem fix_seq {k : SK} (st : Stays ρ S k K H a vs) (r : RelDs G (Live ρ S) H xs vs) : FixIt G ρ S H (ItS k K a) xs := by
  refine ⟨fun i ρ' S' H' e R hi => ?_, fun i d v ρ' S' H' H'' e R hd y => ?_, fun ρ' S' H' e R => ?_⟩
  · obtain ⟨v, hv, _⟩ := r.get (List.getElem?_eq_getElem hi)
    cases k <;> exact ⟨vs, v, st _ _ _ e, hv⟩
  · obtain ⟨u, hu, ru⟩ := r.get hd
    cases k with
    | tup =>
      obtain ⟨rfl, y⟩ := y
      have := y vs (st _ _ _ e)
      rw [hu] at this
      cases this
      exact ⟨Ext.refl, R, ru.mono e.kp⟩
    | lst =>
      obtain ⟨rfl, y⟩ := y
      have := y vs (st _ _ _ e)
      rw [hu] at this
      cases this
      exact ⟨Ext.refl, R, ru.mono e.kp⟩
  · cases k <;> exact ⟨vs, st _ _ _ e, by rw [r.length]; exact Nat.le_refl _⟩
theorem fix_rng {i : Int} {n : Nat} {f : Nat → Int} (hf : ∀ j, f j = i + (j : Nat)) : FixIt G ρ S H (Itr i n) ((List.range n).map fun j => D.int (f j)) := by
  refine ⟨fun j ρ' S' H' e R hj => by show j < n; simpa using hj, fun j d v ρ' S' H' H'' e R hd y => ?_, fun ρ' S' H' e R => by show n ≤ _; simp⟩
  obtain ⟨rfl, rfl⟩ := y
  rw [List.getElem?_map] at hd
  cases hr : (List.range n)[j]? with
  | none => rw [hr] at hd; cases hd
  | some m =>
    have hm : m = j := by
      obtain ⟨h1, h2⟩ := List.getElem?_eq_some_iff.mp hr
      simpa using h2.symm
    rw [hr] at hd
    cases hd
    subst hm
    refine ⟨Ext.refl, R, ?_⟩
    rw [show (fun j => D.int (f j)) m = D.int (i + (m : Nat)) from congrArg D.int (hf m)]
    exact .int _
theorem fix_str {s : List Nat} : FixIt G ρ S H (Its (Str' s)) (s.map fun c => D.str [c]) := by
  refine ⟨fun j ρ' S' H' e R hj => by show j < s.toArray.size; simpa using hj, fun j d v ρ' S' H' H'' e R hd y => ?_, fun ρ' S' H' e R => by show s.toArray.size ≤ _; simp⟩
  obtain ⟨rfl, c, hc, rfl⟩ := y
  replace hc : s.toArray[j]? = some c := hc
  rw [List.getElem?_toArray] at hc
  rw [List.getElem?_map, hc] at hd
  cases hd
  exact ⟨Ext.refl, R, .str [c]⟩
theorem fix_en {k : SK} (st : Stays ρ S k K H a vs) (r : RelDs G (Live ρ S) H xs vs) : FixIt G ρ S H (ItE k K a vs) (xs.mapIdx fun i x => D.tup [.int (i : Nat), x]) := by
  refine ⟨fun i ρ' S' H' e R hi => ⟨st _ _ _ e, by rw [← r.length]; simpa using hi⟩, fun i d v ρ' S' H' H'' e R hd y => ?_, fun ρ' S' H' e R => ⟨st _ _ _ e, by rw [← r.length]; simp⟩⟩
  obtain ⟨T, x, rfl, hT, rfl, hx⟩ := y
  rw [List.getElem?_mapIdx] at hd
  cases hq : xs[i]? with
  | none => rw [hq] at hd; cases hd
  | some q =>
    rw [hq] at hd
    cases hd
    obtain ⟨u, hu, ru⟩ := r.get hq
    rw [hu] at hx
    cases hx
    exact ⟨Ext.newObj hT, R.newObj hT, RelD.newTup R hT (.cons (.int _) (.cons (ru.mono e.kp) .nil))⟩
theorem fix_zip {k1 k2 : SK} {b : Addr} {ys : List D} {us : List V} (st : Stays ρ S k1 K H a vs) (r : RelDs G (Live ρ S) H xs vs) (st2 : Stays ρ S k2 K H b us) (r2 : RelDs G (Live ρ S) H ys us) :
    FixIt G ρ S H (ItZ k1 k2 K a b vs us) ((xs.zip ys).map fun p => D.tup [p.1, p.2]) := by
  have l1 := r.length
  have l2 := r2.length
  refine ⟨fun i ρ' S' H' e R hi => ⟨st _ _ _ e, st2 _ _ _ e, ?_⟩, fun i d v ρ' S' H' H'' e R hd y => ?_, fun ρ' S' H' e R => ⟨st _ _ _ e, st2 _ _ _ e, ?_⟩⟩
  · rw [List.length_map, List.length_zip] at hi
    omega
  · obtain ⟨T, x, y, rfl, hT, rfl, hx, hy⟩ := y
    rw [List.getElem?_map] at hd
    cases hq : (xs.zip ys)[i]? with
    | none => rw [hq] at hd; cases hd
    | some q =>
      rw [hq] at hd
      cases hd
      obtain ⟨h1, h2⟩ := List.getElem?_zip_eq_some.mp hq
      obtain ⟨u, hu, ru⟩ := r.get h1
      obtain ⟨u2, hu2, ru2⟩ := r2.get h2
      rw [hu] at hx
      cases hx
      rw [hu2] at hy
      cases hy
      exact ⟨Ext.newObj hT, R.newObj hT, RelD.newTup R hT (.cons (ru.mono e.kp) (.cons (ru2.mono e.kp) .nil))⟩
  · rw [List.length_map, List.length_zip]
    omega
theorem loc_it {l : Nat} (hl : ρ.l[l]? = some a) : LocIt G ρ S H (Itl K a) l := by
  have key : ∀ {ys : List D} {ρ' : Rho} {S' : Store} {H' : Hp}, EK ρ S H ρ' S' H' → RelS G ρ' S' H' → S'[l]? = some (.lst ys) → ∃ vs, SqL K H' a vs ∧ RelDs G (Live ρ' S') H' ys vs := by
    intro ys ρ' S' H' e R hc
    obtain ⟨t, et⟩ := e.pre
    cases R.cell l _ a hc (by rw [et, List.getElem?_append_left (get_lt hl)]; exact hl) with
    | lst hH hs => exact ⟨_, SqL.of hH, hs⟩
  refine ⟨fun i ys d ρ' S' H' e R hc hd => ?_, fun i ys d v ρ' S' H' H'' e R hc hd y => ?_, fun i ys ρ' S' H' e R hc hi => ?_⟩
  · obtain ⟨vs, hv, hs⟩ := key e R hc
    obtain ⟨u, hu, ru⟩ := hs.get hd
    exact ⟨vs, u, hv, hu⟩
  · obtain ⟨vs, hv, hs⟩ := key e R hc
    obtain ⟨u, hu, ru⟩ := hs.get hd
    obtain ⟨rfl, y⟩ := y
    have := y vs hv
    rw [hu] at this
    cases this
    exact ⟨rfl, ru⟩
  · obtain ⟨vs, hv, hs⟩ := key e R hc
    exact ⟨vs, hv, by rw [← hs.length]; exact hi⟩
end
/-! ### the rules -/
section
variable {G : Wd} {Wx : L2.WX} {C : Ctx} {k : Nat} {X : Cx} {pos p p2 apos tpos : Pos} {x : Str} {i : Nat} {a b c e o tg : Expr} {ia ib ie io ii : IE} {te : TE}
def iSeq (K : PySem.W.Frag) (tl : TE) : TI := fun σ H R => tl σ H fun x H1 => (∃ k a vs, x = .ref a ∧ Sq k K H1 a vs ∧ R (ItS k K a) H1) ∨ ∃ s, x = .str s ∧ R (Its s) H1
theorem pi_seq {l : Expr} {tl : TE} (hl : PE X l tl) : PI X tg l (iSeq X.K tl) := by
  refine ⟨fun pins s σ H R I h => ?_⟩
  refine thn (hl.run pins s σ H _ I h) fun v s1 ⟨x, H1, I1, r1, q1⟩ => ?_
  rcases q1 with ⟨k, a, vs, rfl, hq, q⟩ | ⟨z, rfl, q⟩
  · cases r1
    cases k with
    | tup =>
      obtain ⟨its, rv, p, hz⟩ := I1.tuple hq
      refine wpAny_pyIter_tuple (show s1.heap.IsTuple a its.toArray from p) ?_
      refine ⟨s1.heap.objs.size, [s1.heap.objs.size], _, _, H1, rfl, I1.kept (t' := s1.toks) fun b o e => Heap.get?_push_of_some _ e, turn_tuple a _, ⟨_, Heap.get?_push_size _ rfl, rfl, rfl⟩, fun b hb => ?_, q⟩
      have e : b = s1.heap.objs.size := by simpa using hb
      subst e
      exact I1.fpOk (Nat.le_refl _) (I1.hok.fresh (Nat.le_refl _))
    | lst =>
      obtain ⟨its, rv, p, hz⟩ := I1.list hq
      refine wpAny_pyIter_list p.isList ?_
      refine ⟨s1.heap.objs.size, [s1.heap.objs.size], _, _, H1, rfl, I1.kept (t' := s1.toks) fun b o e => Heap.get?_push_of_some _ e, turn_list a _, ⟨_, Heap.get?_push_size _ rfl, rfl, rfl⟩, fun b hb => ?_, q⟩
      have e : b = s1.heap.objs.size := by simpa using hb
      subst e
      exact I1.fpOk (Nat.le_refl _) (I1.hok.fresh (Nat.le_refl _))
  · obtain ⟨t, rfl⟩ := r1
    cases ha : z.cps.all (· < 128)
    · exact wpAny_pyIter_wide ha (pi_one (tk := s1.toks) I1 _ (turn_str _ z t "str_iterator" (.inr rfl)) ⟨_, Heap.get?_push_size _ rfl, rfl, rfl⟩ q)
    · exact wpAny_pyIter_ascii ha (pi_one (tk := s1.toks) I1 _ (turn_str _ z t "str_ascii_iterator" (.inl rfl)) ⟨_, Heap.get?_push_size _ rfl, rfl, rfl⟩ q)
theorem i_seq (S : Sd G Wx C k X) (he : PE X e (RE G none Wx C ie)) : PI X tg e (RdI G Wx (evalI C (.seq ie))) :=
  (pi_seq he).of fun σ H R ⟨ρ, η, St, RA, h⟩ => rd1 (f := fun w S1 => match w with
    | .loc l => match S1[l]? with
      | some (.lst ys) => .ok (Src.loc l ys.length) S1
      | _ => .stk
    | .d (.str s) => .ok (Src.fix (s.map fun c => .str [c])) S1
    | w => match seqOf w S1 with
      | some (_, xs) => .ok (Src.fix xs) S1
      | none => .stk) RA h fun w v ρ1 S1 H1 R1 e1 r1 h1 => by
    have gen : (∀ l, w ≠ .loc l) → (∀ s, w ≠ .d (.str s)) → Sat G (fun c d H => Wx c d σ H) ρ1 S1 H1 (match seqOf w S1 with
      | some (_, xs) => .ok (Src.fix xs) S1
      | none => .stk) (fun src ρ' S' H' => ∀ J, ItOk G ρ' S' H' J src → R J H') → (∃ k a vs, v = .ref a ∧ Sq k X.K H1 a vs ∧ R (ItS k X.K a) H1) ∨ ∃ s, v = .str s ∧ R (Its s) H1 := by
      intro hw _ h2
      split at h2
      · next k xs es =>
        obtain ⟨a, vs, rfl, st, hs⟩ := stays_of r1 es hw
        rw [S.hK]
        exact .inl ⟨k, a, vs, rfl, st _ _ _ Ext.refl.ek, h2.now R1.st _ (fix_seq st hs)⟩
      · exact h2.elim
    cases r1 with
    | loc hl =>
      dsimp only at h1
      split at h1
      · next ys hc =>
        cases R1.st.cell _ _ _ hc hl with
        | lst hH hs =>
          exact .inl ⟨.lst, _, _, rfl, SqL.of hH, h1.now R1.st (Itl X.K _) (loc_it hl)⟩
      · exact h1.elim
    | scr hs => exact gen (by simp) (by simp) h1
    | exn z => cases z
    | d r1 =>
      cases r1 with
      | str s => exact .inr ⟨_, rfl, h1.now R1.st _ fix_str⟩
      | non => exact gen (by simp) (by simp) h1
      | bl _ => exact gen (by simp) (by simp) h1
      | int _ => exact gen (by simp) (by simp) h1
      | tup _ _ => exact gen (by simp) (by simp) h1
      | lst _ _ _ => exact gen (by simp) (by simp) h1
      | dic _ _ => exact gen (by simp) (by simp) h1
      | obj _ _ _ => exact gen (by simp) (by simp) h1
      | fn _ => exact gen (by simp) (by simp) h1
theorem lineR_eq : (lineR : Int) = 2 ^ 62 := by decide
theorem i_rng (S : Sd G Wx C k X) (hg : Gl X "range") (ha : PE X a (RE G none Wx C ia)) (hs : starEach [a] X.env = [(false, eval a X.env)] := by rfl) (h1 : starEach [a] X.env = (false, eval a X.env) :: starEach [] X.env := by rfl) :
    PI X tg (.Call (.Name "range" p) [a] [] pos) (RdI G Wx (evalI C (.rng ia))) :=
  (pi_range1 hg (S.bmg _ (by decide)) (pa_cons ha pa_nil h1) hs).of fun σ H R ⟨ρ, η, St, RA, h⟩ => rd1 (f := fun w S1 => match w with
    | .d (.int n) => if -lineR ≤ n ∧ n < lineR then .ok (Src.fix ((List.range n.toNat).map fun i => .int (i : Nat))) S1 else .stk
    | _ => .stk) RA h fun w v ρ1 S1 H1 R1 e1 r1 h1 => by
    cases r1 with
    | d r1 =>
      cases r1 with
      | int n =>
        dsimp only at h1
        split at h1
        · next hn =>
          rw [lineR_eq] at hn
          exact ⟨n, rfl, hn.1, hn.2, h1.now R1.st (Itr 0 n.toNat) (fix_rng fun j => by simp)⟩
        · exact h1.elim
      | _ => exact h1.elim
    | _ => exact h1.elim
theorem i_rng2 (S : Sd G Wx C k X) (hg : Gl X "range") (ha : PE X a (RE G none Wx C ia)) (hb : PE X b (RE G none Wx C ib)) (hs : starEach [a, b] X.env = [(false, eval a X.env), (false, eval b X.env)] := by rfl) (hs2 : starEach [b] X.env = [(false, eval b X.env)] := by rfl)
    (h1 : starEach [a, b] X.env = (false, eval a X.env) :: starEach [b] X.env := by rfl) (h2 : starEach [b] X.env = (false, eval b X.env) :: starEach [] X.env := by rfl) :
    PI X tg (.Call (.Name "range" p) [a, b] [] pos) (RdI G Wx (evalI C (.rng2 ia ib))) :=
  (pi_range2 hg (S.bmg _ (by decide)) (pa_cons ha (pa_cons hb pa_nil h2) h1) hs hs2).of fun σ H R ⟨ρ, η, St, RA, h⟩ => rd1 (f := fun w S1 => ((evalP C ib).1 η S1).bind fun u S2 => match w, u with
    | .d (.int i), .d (.int n) => if (-lineR ≤ i ∧ i < lineR) ∧ -lineR ≤ n ∧ n < lineR then .ok (Src.fix ((List.range (n - i).toNat).map fun (k : Nat) => .int (i + k))) S2 else .stk
    | _, _ => .stk) RA h fun w v ρ1 S1 H1 R1 e1 r1 h1 => rd1 R1 h1 fun w2 v2 ρ2 S2 H2 R2 e2 r2 h2 => by
    cases r1 with
    | d r1 =>
      cases r1 with
      | int i =>
        cases r2 with
        | d r2 =>
          cases r2 with
          | int n =>
            dsimp only at h2
            split at h2
            · next hn =>
              rw [lineR_eq] at hn
              exact ⟨i, n, rfl, ⟨hn.1.1, hn.1.2, hn.2.1, hn.2.2⟩, h2.now R2.st (Itr i (n - i).toNat) (fix_rng fun j => rfl)⟩
            · exact h2.elim
          | _ => exact h2.elim
        | _ => exact h2.elim
      | _ => exact h2.elim
    | _ => exact h2.elim
theorem i_en {elts : List Expr} {kk : Nat} (S : Sd G Wx C k X) (hg : Gl X "enumerate") (ha : PE X a (RE G none Wx C ia)) (hs : starEach [a] X.env = [(false, eval a X.env)] := by rfl) (h1 : starEach [a] X.env = (false, eval a X.env) :: starEach [] X.env := by rfl) :
    PI X (.Tuple elts kk tpos) (.Call (.Name "enumerate" p) [a] [] pos) (RdI G Wx (evalI C (.enum ia))) :=
  (pi_en hg (S.bmg _ (by decide)) (pa_cons ha pa_nil h1) hs).of fun σ H R ⟨ρ, η, St, RA, h⟩ => rd1 (f := fun w S1 => match w with
    | .loc _ => .stk
    | w => match seqOf w S1 with
      | some (_, xs) => .ok (Src.fix (xs.mapIdx fun i x => .tup [.int (i : Nat), x])) S1
      | none => .stk) RA h fun w v ρ1 S1 H1 R1 e1 r1 h1 => by
    split at h1
    · exact h1.elim
    · next hw =>
      split at h1
      · next k xs es =>
        obtain ⟨a, vs, rfl, st, hs⟩ := stays_of r1 es (fun l z => hw l z)
        exact ⟨k, a, vs, rfl, by rw [S.hK]; exact st _ _ _ Ext.refl.ek, h1.now R1.st _ (by rw [S.hK]; exact fix_en st hs)⟩
      · exact h1.elim
theorem i_zip {elts : List Expr} {kk : Nat} (S : Sd G Wx C k X) (hg : Gl X "zip") (ha : PE X a (RE G none Wx C ia)) (hb : PE X b (RE G none Wx C ib)) (h1 : starEach [a, b] X.env = (false, eval a X.env) :: starEach [b] X.env := by rfl) (h2 : starEach [b] X.env = (false, eval b X.env) :: starEach [] X.env := by rfl)
    (hpl : (backTo pos (starEach [b] X.env)).any (·.1) = false := by rfl) : PI X (.Tuple elts kk tpos) (.Call (.Name "zip" p) [a, b] [] pos) (RdI G Wx (evalI C (.zip ia ib))) :=
  (pi_zp hg (S.bmg _ (by decide)) (pa_cons ha (pa_cons hb pa_nil h2) h1) h1 hpl).of fun σ H R ⟨ρ, η, St, RA, h⟩ => rd1 (f := fun w S1 => ((evalP C ib).1 η S1).bind fun u S2 => match w, u with
    | .d x, .d y => match seqOf (.d x) S2, seqOf (.d y) S2 with
      | some (_, xs), some (_, ys) => .ok (Src.fix ((xs.zip ys).map fun p => .tup [p.1, p.2])) S2
      | _, _ => .stk
    | _, _ => .stk) RA h fun w v ρ1 S1 H1 R1 e1 r1 h1 => rd1 R1 h1 fun w2 v2 ρ2 S2 H2 R2 e2 r2 h2 => by
    split at h2
    · next x y =>
      split at h2
      · next k1 xs k2 ys ex ey =>
        obtain ⟨a, vs, rfl, st, hs⟩ := stays_of (r1.mono e2.kp e2.pre) ex (by simp)
        obtain ⟨b, us, rfl, st2, hs2⟩ := stays_of r2 ey (by simp)
        exact ⟨k1, k2, a, b, vs, us, rfl, by rw [S.hK]; exact st _ _ _ Ext.refl.ek, by rw [S.hK]; exact st2 _ _ _ Ext.refl.ek, h2.now R2.st _ (by rw [S.hK]; exact fix_zip st hs st2 hs2)⟩
      · exact h2.elim
    · exact h2.elim
end
end RI
/-! RI14: list comprehensions. -/
namespace RI
open PySem PySem.Spec PyProof.Rows L2

/-! ### a list under way is held aside -/
def Rho.aside (ρ : Rho) (D : Addr) : Rho := ⟨ρ.l, fun a => ρ.F a ∨ a = D⟩
def Rho.wF (ρ : Rho) (F : Addr → Prop) : Rho := ⟨ρ.l, F⟩
section
variable {G : Wd} {ρ ρ1 ρ2 : Rho} {S S1 S2 : Store} {H H1 H2 : Hp} {D a : Addr} {o : HO} {F : Addr → Prop}
theorem RelW.monoF {L L' : Addr → Prop} {w : W} {v : V} (k : Kp L H L' H1) (p : ∃ t, ρ1.l = ρ.l ++ t) (h : RelW G none L ρ H w v) : RelW G none L' ρ1 H1 w v := by
  obtain ⟨t, e⟩ := p
  have h2 := h.mono (ρ1 := ρ.app t) k ⟨t, rfl⟩
  clear h
  cases h2 with
  | d h => exact .d h
  | loc h => exact .loc (by rw [e]; exact h)
  | scr h => exact .scr h
  | exn h => cases h
theorem RelWs.monoF {L L' : Addr → Prop} (k : Kp L H L' H1) (p : ∃ t, ρ1.l = ρ.l ++ t) : ∀ {ws : List W} {vs : List V}, RelWs G none L ρ H ws vs → RelWs G none L' ρ1 H1 ws vs
  | _, _, .nil => .nil
  | _, _, .cons h hs => .cons (h.monoF k p) (RelWs.monoF k p hs)
theorem RelFw.monoF {L L' : Addr → Prop} (k : Kp L H L' H1) (p : ∃ t, ρ1.l = ρ.l ++ t) : ∀ {ws : List (Nat × W)} {vs : List (Str × V)}, RelFw G L ρ H ws vs → RelFw G L' ρ1 H1 ws vs
  | _, _, .nil => .nil
  | _, _, .cons h hs => .cons (h.monoF k p) (RelFw.monoF k p hs)
theorem RelC.monoF {L L' : Addr → Prop} {c : Cell} (e : ∀ q, H a = some q → H1 a = some q) (k : Kp L H L' H1) (p : ∃ t, ρ1.l = ρ.l ++ t) (h : RelC G L ρ H c a) : RelC G L' ρ1 H1 c a := by
  cases h with
  | lst h hs => exact .lst (e _ h) (hs.mono k)
  | lsw h hs => exact .lsw (e _ h) (hs.monoF k p)
  | dct h f => exact f.elim
  | ins h hs => exact .ins (e _ h) (hs.monoF k p)
  | dead => exact .dead
theorem kp_aside (hD : H D = none) : Kp (Live ρ S) H (Live (ρ.aside D) S) (upd H D o) := by
  refine ⟨fun a q h _ => upd_some hD h, fun a h => ?_⟩
  rcases h with (f | e) | z
  · exact .inl (.inl f)
  · exact .inr (e ▸ hD)
  · exact .inl (.inr z)
theorem RelS.aside (R : RelS G ρ S H) (hD : H D = none) : RelS G (ρ.aside D) S (upd H D o) := by
  refine ⟨R.len, R.nd, fun l c a h1 h2 => (R.cell l c a h1 h2).monoF (fun q h => upd_some hD h) (kp_aside hD) ⟨[], by simp [Rho.aside]⟩, fun a h => upd_dom (R.dom a h), fun a f => ?_⟩
  rcases f with f | e
  · exact ⟨upd_dom (R.res a f).1, (R.res a f).2⟩
  · subst e
    exact ⟨by rw [upd_same]; simp, R.notin hD⟩
theorem RelS.unres (R : RelS G ρ S H) (hF : ∀ a, F a → ρ.F a) : RelS G (ρ.wF F) S H := by
  have k : Kp (Live ρ S) H (Live (ρ.wF F) S) H := ⟨fun _ _ h _ => h, fun a h => .inl (by
    rcases h with f | z
    · exact .inl (hF a f)
    · exact .inr z)⟩
  exact ⟨R.len, R.nd, fun l c a h1 h2 => (R.cell l c a h1 h2).monoF (fun _ h => h) k ⟨[], by simp [Rho.wF]⟩, R.dom, fun a f => R.res a (hF a f)⟩
/-- what is held aside is written -/
theorem kp_write {vs : List V} (hF : ρ.F D) (h : H D = some (.lst vs)) : Kp (Live ρ S) H (Live ρ S) (upd H D o) := by
  refine ⟨fun a q e s => ?_, fun a h => .inl h⟩
  by_cases z : a = D
  · subst z
    have := s (.inl hF)
    rw [h] at e
    cases e
    exact this.elim
  · rw [upd_ne z]; exact e
theorem RelS.write {vs : List V} (R : RelS G ρ S H) (hF : ρ.F D) (h : H D = some (.lst vs)) : RelS G ρ S (upd H D o) :=
  ⟨R.len, R.nd, fun l c a h1 h2 => (R.cell l c a h1 h2).monoF (fun q e => by
    have ne : a ≠ D := fun z => (R.res D hF).2 (by rw [← z]; exact List.mem_of_getElem? h2)
    rw [upd_ne ne]
    exact e) (kp_write hF h) ⟨[], by simp⟩, fun a h => upd_dom (R.dom a h), fun a f => ⟨upd_dom (R.res a f).1, (R.res a f).2⟩⟩
/-- one step, seen from where D is not held aside -/
theorem Ext.unaside (e : Ext ρ1 S1 H1 ρ2 S2 H2) (R2 : RelS G ρ2 S2 H2) (hF : ∀ a, ρ1.F a → F a ∨ a = D) (hF' : ∀ a, F a → ρ1.F a) (hD : ρ1.F D) (nD : ¬ F D) (hd : H1 D ≠ none) : Ext (ρ1.wF F) S1 H1 (ρ2.wF F) S2 H2 := by
  obtain ⟨t, et⟩ := e.pre
  have eF : ρ2.F = ρ1.F := by rw [et]; rfl
  refine ⟨⟨t, by rw [et]; rfl⟩, fun a q h s => ?_, fun a h => ?_, e.dom, fun a f h => e.res a (hF' a f) h⟩
  · by_cases z : a = D
    · subst z
      rw [e.res a hD hd]
      exact h
    · refine e.keep a q h fun l => s ?_
      rcases l with f | l
      · rcases hF a f with f | f
        · exact .inl f
        · exact absurd f z
      · exact .inr l
  · have hl : Live ρ2 S2 a := by
      rcases h with f | l
      · exact .inl (by rw [eF]; exact hF' a f)
      · exact .inr l
    rcases e.new a hl with l | z
    · rcases l with f | l
      · rcases hF a f with f | f
        · exact .inl (.inl f)
        · subst f
          exfalso
          rcases h with f | ⟨m, c, h1, h2, h3⟩
          · exact nD f
          · exact (R2.res a (by rw [eF]; exact hD)).2 (List.mem_of_getElem? h3)
      · exact .inl (.inr l)
    · exact .inr z
theorem Ext.updFresh (e : Ext ρ S H ρ1 S1 H1) (hD : H D = none) : Ext ρ S H ρ1 S1 (upd H1 D o) :=
  ⟨e.pre, fun a q h s => by rw [upd_ne (fun z => by rw [z, hD] at h; cases h)]; exact e.keep a q h s, e.new, fun a h => upd_dom (e.dom a h), fun a f h => by
    have ne : a ≠ D := fun z => h (by rw [z]; exact hD)
    rw [upd_ne ne]; exact e.res a f h⟩
/-- the state of a comprehension: acc stands at D -/
structure LS (G : Wd) (ρ1 : Rho) (S1 : Store) (H1 : Hp) (D : Addr) (ρ : Rho) (S : Store) (H : Hp) (acc : List RI.D) (av : List V) : Prop where
  ext : Ext ρ1 S1 H1 (ρ.wF ρ1.F) S H
  F : ρ.F = fun a => ρ1.F a ∨ a = D
  st : RelS G ρ S H
  at_ : H D = some (.lst av)
  rel : RelDs G (Live ρ S) H acc av
variable {acc : List RI.D} {av : List V}
theorem LS.start (R : RelS G ρ1 S1 H1) (hD : H1 D = none) : LS G ρ1 S1 H1 D (ρ1.aside D) S1 (upd H1 D (.lst [])) [] [] :=
  ⟨Ext.updFresh (D := D) (o := .lst []) (Ext.refl (ρ := ρ1)) hD, rfl, R.aside hD, upd_same .., .nil⟩
theorem LS.ek (R1 : RelS G ρ1 S1 H1) (hD : H1 D = none) (l : LS G ρ1 S1 H1 D ρ S H acc av) : EK ρ1 S1 H1 ρ S H := by
  refine ⟨⟨l.ext.keep, fun a h => ?_⟩, ?_, l.ext.dom⟩
  · by_cases z : a = D
    · exact .inr (z ▸ hD)
    · refine l.ext.new a ?_
      rcases h with f | h
      · rw [l.F] at f
        rcases f with f | f
        · exact .inl f
        · exact absurd f z
      · exact .inr h
  · obtain ⟨t, e⟩ := l.ext.pre
    exact ⟨t, congrArg Rho.l e⟩
/-- a step that leaves acc -/
theorem LS.step (R1 : RelS G ρ1 S1 H1) (hD : H1 D = none) (l : LS G ρ1 S1 H1 D ρ S H acc av) (e : Ext ρ S H ρ2 S2 H2) (R2 : RelS G ρ2 S2 H2) : LS G ρ1 S1 H1 D ρ2 S2 H2 acc av := by
  have hF : ρ.F D := by rw [l.F]; exact .inr rfl
  have nD : ¬ ρ1.F D := fun f => (R1.res D f).1 hD
  have hd : H D ≠ none := by rw [l.at_]; simp
  have e2 := e.unaside (F := ρ1.F) R2 (fun a f => by rw [l.F] at f; exact f) (fun a f => by rw [l.F]; exact .inl f) hF nD hd
  refine ⟨l.ext.trans e2, ?_, R2, ?_, l.rel.mono e.kp⟩
  · obtain ⟨t, et⟩ := e.pre
    rw [et]
    exact l.F
  · rw [e.res D hF hd]
    exact l.at_
theorem LS.app {x : RI.D} {v : V} (R1 : RelS G ρ1 S1 H1) (hD : H1 D = none) (l : LS G ρ1 S1 H1 D ρ S H acc av) (r : RelD G (Live ρ S) H x v) : LS G ρ1 S1 H1 D ρ S (upd H D (.lst (av ++ [v]))) (acc ++ [x]) (av ++ [v]) := by
  have hF : ρ.F D := by rw [l.F]; exact .inr rfl
  have k : Kp (Live ρ S) H (Live ρ S) (upd H D (.lst (av ++ [v]))) := kp_write hF l.at_
  exact ⟨l.ext.updFresh hD, l.F, l.st.write hF l.at_, upd_same .., (l.rel.mono k).append (.cons (r.mono k) .nil)⟩
/-- the list is done -/
theorem LS.done (R1 : RelS G ρ1 S1 H1) (hD : H1 D = none) (l : LS G ρ1 S1 H1 D ρ S H acc av) : RelS G (ρ.wF ρ1.F) S H ∧ RelD G (Live (ρ.wF ρ1.F) S) H (.lst acc) (.ref D) := by
  have hF : ρ.F D := by rw [l.F]; exact .inr rfl
  have hF' : ∀ a, ρ1.F a → ρ.F a := fun a f => by rw [l.F]; exact .inl f
  have k : Kp (Live ρ S) H (Live (ρ.wF ρ1.F) S) H := ⟨fun _ _ h _ => h, fun a h => .inl (by
    rcases h with f | z
    · exact .inl (hF' a f)
    · exact .inr z)⟩
  refine ⟨l.st.unres hF', .lst l.at_ ?_ (l.rel.mono k)⟩
  rintro (f | ⟨m, c, h1, h2, h3⟩)
  · exact (R1.res D f).1 hD
  · exact (l.st.res D hF).2 (List.mem_of_getElem? h3)
theorem Sat.rebase {α β : Type} {W1 W2 : XK} {r : Res α} {f : α → Store → Res β} {P : β → Rho → Store → Hp → Prop} (h : Sat G W1 ρ S H ((noExc r).bind f) P) (ρ' : Rho) (S' : Store) (H' : Hp) :
    Sat G W2 ρ' S' H' (noExc r) fun a ρ2 S2 H2 => Ext ρ' S' H' ρ2 S2 H2 ∧ RelS G ρ2 S2 H2 ∧ Sat G W1 ρ S H (f a S2) P := by
  cases r with
  | ok a S0 => exact fun ρ2 H2 e R => ⟨e, R, h⟩
  | exc c fs S0 => exact h
  | stk => exact h
end
/-- no error is taken here -/
abbrev noW : L2.WX := fun _ _ _ _ => False
section
variable {G : Wd} {Wx : L2.WX} {C : Ctx} {k : Nat} {X : Cx} {pos p p2 apos tpos : Pos} {x : Str} {i : Nat} {a b c e o tg : Expr} {ia ib ie io ii : IE}
theorem Sd.blk (S : Sd G Wx C k X) (s : Shared) (H : Hp) (scope : Scope) (cenv : PySem.Env) (fp : List Addr) : Sd G noW C k (X.blk s H scope cenv fp) :=
  { hK := S.hK, nd := S.nd, tk := takes0, calm := S.calm, un := S.un, room := S.room, fok := fun f fd h => ⟨(S.fok f fd h).ex, (S.fok f fd h).kp⟩, fmg := S.fmg, cmg := S.cmg, bmg := S.bmg, cst := S.cst, clf := S.clf, mkf := S.mkf, eqm := S.eqm, nmI := S.nmI, kit := S.kit }
/-- the comprehension's own turn -/
theorem lc_turn {t : IT} {io : IO} {own : List Nat} {ρ1 ρ : Rho} {S1 S : Store} {H1 H H2 : Hp} {D : Addr} {acc : List RI.D} {av : List V} {W1 : XK} {P : W → Rho → Store → Hp → Prop} {fin : List RI.D → Store → Res W} {η : Env} {σ : L2.St} {x : RI.D} {v : V} {Nx : Hp → Prop}
    (hown : ∀ j ∈ IT.names t, j ∈ own) (R1 : RelS G ρ1 S1 H1) (hD : H1 D = none) (l : LS G ρ1 S1 H1 D ρ S H acc av) (e : Ext ρ S H ρ S H2) (R2 : RelS G ρ S H2) (rx : RelD G (Live ρ S) H2 x v)
    (RA : RelAll G none ρ (wipeE η own) S (wipe σ own) H)
    (h : Sat G W1 ρ1 S1 H1 (noExc ((lcTurn (setT C t) (evalC C io) (evalP C ie).1 (wipeE η own) x acc S).bind fin)) P)
    (next : ∀ acc' av' ρ' S' H', LS G ρ1 S1 H1 D ρ' S' H' acc' av' → RelAll G none ρ' (wipeE η own) S' (wipe σ own) H' → Sat G W1 ρ1 S1 H1 (noExc (fin acc' S')) P → Nx H') :
    RdG G (IT.names t) (setT C t) v (wipe σ own) H2 fun σ2 H3 => wipe σ2 own = wipe σ own ∧ RdT G none noW (evalC C io) σ2 H3 fun b H4 =>
      if b = true then RE G none noW C ie σ2 H4 fun y H5 => ∃ ac, H5 D = some (.lst ac) ∧ ac.length < sizeLine ∧ Nx (upd H5 D (.lst (ac ++ [y]))) else Nx H4 := by
  have l2 := l.step R1 hD e R2
  unfold lcTurn at h
  rw [Res.bind_assoc, noExc_bind] at h
  refine ⟨ρ, wipeE η own, S, .d x, RA.mono e R2, .d rx, (h.rebase ρ S H2).mono fun η1 ρ3 S3 H3 _ _ ⟨e3, R3, h3⟩ σ2 RA3 sb => ?_⟩
  have hw : wipe σ2 own = wipe σ own := by
    have := sb own hown
    rw [this]
    apply List.ext_getElem?
    intro j
    rw [wipe_get, wipe_get]
    split
    · cases σ[j]? <;> rfl
    · rfl
  refine ⟨hw, ?_⟩
  have l3 := l2.step R1 hD e3 R3
  have RA' : RelAll G none ρ3 (wipeE η own) S3 (wipe σ own) H3 := (RA.mono e R2).mono e3 R3
  rw [Res.bind_assoc, noExc_bind] at h3
  refine ⟨ρ3, η1, S3, RA3, Sat.nx (W1 := noX) ((h3.rebase ρ3 S3 H3).mono fun b ρ4 S4 H4 _ _ ⟨e4, R4, h4⟩ => ?_)⟩
  have l4 := l3.step R1 hD e4 R4
  cases b with
  | false => exact next acc av ρ4 S4 H4 l4 (RA'.mono e4 R4) h4
  | true =>
    simp only [if_true] at h4 ⊢
    rw [Res.bind_assoc, noExc_bind] at h4
    refine ⟨ρ4, η1, S4, RA3.mono e4 R4, Sat.nx (W1 := noX) ((h4.rebase ρ4 S4 H4).mono fun w ρ5 S5 H5 _ _ ⟨e5, R5, h5⟩ y ry => ?_)⟩
    have l5 := l4.step R1 hD e5 R5
    rw [Res.bind_assoc, noExc_bind] at h5
    rcases toD_cases w S5 with ⟨z, S6, ez⟩ | ez
    · rw [ez, noExc_ok, Res.bind_ok] at h5
      obtain ⟨e6, R6, rz⟩ := toD_ok R5 ry ez
      have l6 := l5.step R1 hD e6 R6
      split at h5
      · next hlen =>
        rw [Res.bind_ok] at h5
        have l7 := l6.app R1 hD rz
        refine ⟨av, l6.at_, by rw [← l6.rel.length, ← line_eq]; exact hlen, next (acc ++ [z]) (av ++ [y]) ρ5 S6 _ l7 ?_ h5⟩
        have RA6 : RelAll G none ρ5 (wipeE η own) S6 (wipe σ own) H5 := ((RA'.mono e4 R4).mono e5 R5).mono e6 R6
        have hF : ρ5.F D := by rw [l6.F]; exact .inr rfl
        exact ⟨l7.st, RA6.len, fun i w hi => let ⟨u, e1, r⟩ := RA6.slot i w hi; ⟨u, e1, r.monoF (kp_write hF l6.at_) ⟨[], by simp⟩⟩⟩
      · exact h5.elim
    · rw [ez] at h5
      exact h5.elim
/-- PTs of the written tests -/
theorem c_none : PTs X [] (RdT G none Wx (evalC C .no)) := ⟨fun pins s σ H Q I ⟨ρ, η, St, R, h⟩ => pts_nil.run pins s σ H Q I ((show Sat _ _ _ _ _ (.ok true St) _ from h).now R.st)⟩
theorem c_one (h : PT X c (RT G none Wx C ic)) : PTs X [c] (RdT G none Wx (evalC C (.yes ic))) := pts_one h
/-- the loop of a comprehension -/
theorem lc_loop {t : IT} {io : IO} {it : II} {own : List Nat} {σ : L2.St} {H : Hp} {Q : VK} (hown : ∀ j ∈ IT.names t, j ∈ own) (hq : RE G none Wx C (.lc ie own t it io) σ H Q) :
    tLc (RdI G Wx (evalI C it)) (RdG G (IT.names t) (setT C t)) (RdT G none noW (evalC C io)) (RE G none noW C ie) own σ H Q := by
  obtain ⟨ρ, η, St, R, h⟩ := hq
  replace h : Sat G (fun c d H => Wx c d σ H) ρ St H (noExc ((evalI C it η St).bind fun src S1 => (lcSrc (setT C t) (evalC C io) (evalP C ie).1 (wipeE η own) src S1).bind fun xs S2 => .ok (W.d (.lst xs)) S2)) _ := h
  rw [noExc_bind] at h
  refine ⟨ρ, η, St, R, Sat.nx (W1 := noX) ((h.rebase ρ St H).mono fun src ρ1 S1 H1 _ _ ⟨e1, R1, h1⟩ J hJ D hD => ?_)⟩
  replace h1 : Sat G (fun c d H => Wx c d σ H) ρ1 S1 H1 (noExc ((lcSrc (setT C t) (evalC C io) (evalP C ie).1 (wipeE η own) src S1).bind fun xs S2 => .ok (W.d (.lst xs)) S2)) (fun w ρ' S' H' => ∀ v, RelW G none (Live ρ' S') ρ' H' w v → Q v H') := by
    revert h1
    generalize noExc _ = r
    intro h1
    cases r with
    | ok a S' => exact h1.from e1
    | exc c fs S' => exact h1.from e1
    | stk => exact h1
  have RA1 : RelAll G none ρ1 (wipeE η own) S1 (wipe σ own) H1 := (R.mono e1 R1).wipe own
  have RA0 : RelAll G none (ρ1.aside D) (wipeE η own) S1 (wipe σ own) (upd H1 D (.lst [])) :=
    ⟨R1.aside hD, RA1.len, fun i w hi => let ⟨u, eu, r⟩ := RA1.slot i w hi; ⟨u, eu, r.monoF (kp_aside hD) ⟨[], by simp [Rho.aside]⟩⟩⟩
  have l0 : LS G ρ1 S1 H1 D (ρ1.aside D) S1 (upd H1 D (.lst [])) [] [] := LS.start R1 hD
  have fin : ∀ {acc : List RI.D} {av : List V} {ρ' : Rho} {S' : Store} {H' : Hp}, LS G ρ1 S1 H1 D ρ' S' H' acc av → Sat G (fun c d H => Wx c d σ H) ρ1 S1 H1 (noExc (.ok (W.d (.lst acc)) S')) (fun w ρ' S' H' => ∀ v, RelW G none (Live ρ' S') ρ' H' w v → Q v H') → Q (.ref D) H' := by
    intro acc av ρ' S' H' l hs
    obtain ⟨d1, d2⟩ := l.done R1 hD
    exact hs _ _ l.ext d1 _ (.d d2)
  cases src with
  | fix xs =>
    refine ⟨fun i m H' => m = xs.length - i ∧ i ≤ xs.length ∧ ∃ acc av ρ' S', LS G ρ1 S1 H1 D ρ' S' H' acc av ∧ RelAll G none ρ' (wipeE η own) S' (wipe σ own) H' ∧
      Sat G (fun c d H => Wx c d σ H) ρ1 S1 H1 (noExc ((lcFix (setT C t) (evalC C io) (evalP C ie).1 (wipeE η own) (xs.drop i) acc S').bind fun xs S2 => .ok (W.d (.lst xs)) S2)) (fun w ρ' S' H' => ∀ v, RelW G none (Live ρ' S') ρ' H' w v → Q v H'),
      ⟨_, rfl, Nat.zero_le _, [], [], ρ1.aside D, S1, l0, RA0, h1⟩, ?_⟩
    rintro i m H' ⟨rfl, hi, acc, av, ρ', S', l, RA, hs⟩
    by_cases hlt : i < xs.length
    · right
      refine ⟨hJ.go i ρ' S' H' (l.ek R1 hD) l.st hlt, fun H'' => ∃ acc av ρ' S', LS G ρ1 S1 H1 D ρ' S' H'' acc av ∧ RelAll G none ρ' (wipeE η own) S' (wipe σ own) H'' ∧
        Sat G (fun c d H => Wx c d σ H) ρ1 S1 H1 (noExc ((lcFix (setT C t) (evalC C io) (evalP C ie).1 (wipeE η own) (xs.drop (i + 1)) acc S').bind fun xs S2 => .ok (W.d (.lst xs)) S2)) (fun w ρ' S' H' => ∀ v, RelW G none (Live ρ' S') ρ' H' w v → Q v H'),
        fun H'' q => ⟨xs.length - (i + 1), by omega, rfl, hlt, q⟩, fun v H2 y => ?_⟩
      obtain ⟨e2, R2, rx⟩ := hJ.yld i xs[i] v ρ' S' H' H2 (l.ek R1 hD) l.st (List.getElem?_eq_getElem hlt) y
      rw [List.drop_eq_getElem_cons hlt] at hs
      unfold lcFix at hs
      rw [Res.bind_assoc] at hs
      exact lc_turn hown R1 hD l e2 R2 rx RA hs fun acc' av' ρ2 S2 H3 l2 RA2 h2 => ⟨acc', av', ρ2, S2, l2, RA2, h2⟩
    · left
      have hi' : i = xs.length := by omega
      subst hi'
      refine ⟨hJ.stop ρ' S' H' (l.ek R1 hD) l.st, fin l ?_⟩
      rw [List.drop_length] at hs
      exact hs
  | loc lc n =>
    refine ⟨fun i m H' => ∃ acc av ρ' S', LS G ρ1 S1 H1 D ρ' S' H' acc av ∧ RelAll G none ρ' (wipeE η own) S' (wipe σ own) H' ∧
      Sat G (fun c d H => Wx c d σ H) ρ1 S1 H1 (noExc ((lcLoc (setT C t) (evalC C io) (evalP C ie).1 (wipeE η own) lc m i acc S').bind fun xs S2 => .ok (W.d (.lst xs)) S2)) (fun w ρ' S' H' => ∀ v, RelW G none (Live ρ' S') ρ' H' w v → Q v H'),
      ⟨n, [], [], ρ1.aside D, S1, l0, RA0, h1⟩, ?_⟩
    rintro i m H' ⟨acc, av, ρ', S', l, RA, hs⟩
    cases m with
    | zero =>
      left
      unfold lcLoc at hs
      split at hs
      · next ys hc =>
        split at hs
        · next hle => exact ⟨hJ.stop i ys ρ' S' H' (l.ek R1 hD) l.st hc hle, fin l hs⟩
        · exact hs.elim
      · exact hs.elim
    | succ m =>
      right
      unfold lcLoc at hs
      split at hs
      · next ys hc =>
        split at hs
        · next x hx =>
          refine ⟨hJ.go i ys x ρ' S' H' (l.ek R1 hD) l.st hc hx, fun H'' => ∃ acc av ρ' S', LS G ρ1 S1 H1 D ρ' S' H'' acc av ∧ RelAll G none ρ' (wipeE η own) S' (wipe σ own) H'' ∧
            Sat G (fun c d H => Wx c d σ H) ρ1 S1 H1 (noExc ((lcLoc (setT C t) (evalC C io) (evalP C ie).1 (wipeE η own) lc m (i + 1) acc S').bind fun xs S2 => .ok (W.d (.lst xs)) S2)) (fun w ρ' S' H' => ∀ v, RelW G none (Live ρ' S') ρ' H' w v → Q v H'),
            fun H'' q => ⟨m, Nat.lt_succ_self _, q⟩, fun v H2 y => ?_⟩
          obtain ⟨e2, rx⟩ := hJ.yld i ys x v ρ' S' H' H2 (l.ek R1 hD) l.st hc hx y
          subst e2
          rw [Res.bind_assoc] at hs
          exact lc_turn hown R1 hD l Ext.refl l.st rx RA hs fun acc' av' ρ2 S2 H3 l2 RA2 h2 => ⟨acc', av', ρ2, S2, l2, RA2, h2⟩
        · exact hs.elim
      · exact hs.elim
theorem e_lc {t : IT} {io : IO} {it : II} {own : List (Str × Nat)} {vs : List Nat} {elt iter : Expr} {ifs : List Expr} {scope : Scope} (S : Sd G Wx C k X) (ok : BlkOk X.N X.env.scope scope own) (hvs : vs = own.map (·.2)) (hi : PI X tg iter (RdI G Wx (evalI C it)))
    (hg : ∀ (s : Shared) (H : Hp) (Cc : Addr) (cl : List (Str × Addr)) (fp : List Addr), Sd G noW C k (X.blk s H scope (compEnvC scope cl Cc X.env) fp) → PG (X.blk s H scope (compEnvC scope cl Cc X.env) fp) tg (RdG G (IT.names t) (setT C t)))
    (ht : ∀ (s : Shared) (H : Hp) (Cc : Addr) (cl : List (Str × Addr)) (fp : List Addr), Sd G noW C k (X.blk s H scope (compEnvC scope cl Cc X.env) fp) → PTs (X.blk s H scope (compEnvC scope cl Cc X.env) fp) ifs (RdT G none noW (evalC C io)))
    (he : ∀ (s : Shared) (H : Hp) (Cc : Addr) (cl : List (Str × Addr)) (fp : List Addr), Sd G noW C k (X.blk s H scope (compEnvC scope cl Cc X.env) fp) → PE (X.blk s H scope (compEnvC scope cl Cc X.env) fp) elt (RE G none noW C ie))
    (hown : ((IT.names t).all fun j => vs.contains j) = true := by rfl) (hs : ∀ x, foldedSetIterable iter X.env x = pure x := by intro _; rfl) :
    PE X (.ListComp elt [⟨tg, iter, ifs, 0⟩] scope pos) (RE G none Wx C (.lc ie vs t it io)) := by
  subst hvs
  exact (pe_lc S.calm S.nd hi ok (fun s H Cc cl fp => hg s H Cc cl fp (S.blk ..)) (fun s H Cc cl fp => ht s H Cc cl fp (S.blk ..)) (fun s H Cc cl fp => he s H Cc cl fp (S.blk ..)) hs).of fun σ H Q h => lc_loop (fun j hj => by
    have := List.all_eq_true.mp hown j hj
    simpa using this) h
end
end RI
/-! RI15: statements. -/
namespace RI
open PySem PySem.Spec PyProof.Rows L2
def FlowOk (G : Wd) (D : Ends) (f : Flow) (ρ : Rho) (S : Store) (H : Hp) : Prop := match f with
  | .nx η => ∀ σ, RelAll G none ρ η S σ H → D.nx σ H
  | .brk η => ∀ σ, RelAll G none ρ η S σ H → D.bk σ H
  | .cont η => ∀ σ, RelAll G none ρ η S σ H → D.ct σ H
  | .ret w => ∀ v, RelW G none (Live ρ S) ρ H w v → D.rt v H
def RdS (G : Wd) (E : XK) (m : Env → Store → Res Flow) : TS := fun D σ H => ∃ ρ η S, RelAll G none ρ η S σ H ∧ Sat G E ρ S H (m η S) (FlowOk G D)
abbrev RS (G : Wd) (E : XK) (C : Ctx) (s : IS) : TS := RdS G E (execS C s)
abbrev RSs (G : Wd) (E : XK) (C : Ctx) (s : ISs) : TS := RdS G E (execSs C s)
theorem EK.ext {ρ ρ1 ρ2 : Rho} {S S1 S2 : Store} {H H1 H2 : Hp} (a : EK ρ S H ρ1 S1 H1) (b : Ext ρ1 S1 H1 ρ2 S2 H2) : EK ρ S H ρ2 S2 H2 := by
  obtain ⟨t, e⟩ := a.pre
  obtain ⟨u, e'⟩ := b.pre
  refine ⟨⟨fun x o h s => ?_, fun x h => ?_⟩, ⟨t ++ u, by rw [e']; show ρ1.l ++ u = _; rw [e, List.append_assoc]⟩, fun x h => b.dom x (a.dom x h)⟩
  · refine b.keep x o (a.kp.keep x o h s) fun h1 => ?_
    rcases a.kp.new x h1 with z | z
    · exact s z
    · rw [z] at h; cases h
  · rcases b.new x h with z | z
    · exact a.kp.new x z
    · right
      cases e : H x with
      | none => rfl
      | some o => exact absurd z (a.dom x (by rw [e]; simp))
/-- errors by class and heap alone -/
abbrev wE (E : XK) : L2.WX := fun c d _ H => E c d H
theorem fl {G : Wd} {E : XK} {ρ : Rho} {S : Store} {H : Hp} {D : Ends} {f : Flow} (R : RelS G ρ S H) (h : Sat G E ρ S H (.ok f S) (FlowOk G D)) : FlowOk G D f ρ S H := h.now R
section
variable {G : Wd} {E : XK} {C : Ctx} {k : Nat} {X : Cx} {pos p p2 apos tpos pos' : Pos} {x : Str} {i : Nat} {a b c e o tg : Expr} {ia ib ie io ii : IE} {st : Stmt} {sts : List Stmt} {is : IS} {iss : ISs}
theorem s_nil : PSs X [] (RSs G E C .nil) := pss_nil.of fun D σ H ⟨ρ, η, St, R, h⟩ => (fl (f := .nx η) (E := E) R.st h) σ R
theorem s_cons (h1 : PS X st (RS G E C is)) (h2 : PSs X sts (RSs G E C iss)) : PSs X (st :: sts) (RSs G E C (.cons is iss)) :=
  (pss_cons h1 h2).of fun D σ H ⟨ρ, η, St, R, h⟩ => by
    replace h : Sat G E ρ St H ((execS C is η St).bind fun f S1 => match f with
      | .nx η1 => execSs C iss η1 S1
      | f => .ok f S1) (FlowOk G D) := h
    refine ⟨ρ, η, St, R, h.bind.mono fun f ρ1 S1 H1 _ _ ⟨e1, R1, h1⟩ => ?_⟩
    cases f with
    | nx η1 => exact fun σ1 RA => ⟨ρ1, η1, S1, RA, h1⟩
    | brk η1 => exact fun σ RA => fl (E := E) (D := D) (f := .brk η1) R1 h1 σ RA
    | cont η1 => exact fun σ RA => fl (E := E) (D := D) (f := .cont η1) R1 h1 σ RA
    | ret w => exact fun v r => fl (E := E) (D := D) (f := .ret w) R1 h1 v r
/-- an expression, then the end -/
theorem rdS1 {m : Env → Store → Res W} {f : W → Store → Res Flow} {ρ : Rho} {S : Store} {H : Hp} {σ : L2.St} {η : Env} {D : Ends} {Q : VK} (R : RelAll G none ρ η S σ H) (h : Sat G E ρ S H ((m η S).bind f) (FlowOk G D))
    (k : ∀ w v ρ1 S1 H1, RelAll G none ρ1 η S1 σ H1 → Ext ρ S H ρ1 S1 H1 → RelW G none (Live ρ1 S1) ρ1 H1 w v → Sat G E ρ1 S1 H1 (f w S1) (FlowOk G D) → Q v H1) : RdE G none (wE E) m σ H Q := rd1 (Wx := wE E) R h k
theorem s_doc {j pos pos'} {s : Str} : PS X (.Expr (.Constant (.str s) j pos) pos') (RS G E C .pass) := ps_doc.of fun D σ H ⟨ρ, η, St, R, h⟩ => (fl (f := .nx η) (E := E) R.st h) σ R
theorem s_pass : PS X (.Pass pos) (RS G E C .pass) := ps_pass.of fun D σ H ⟨ρ, η, St, R, h⟩ => (fl (f := .nx η) (E := E) R.st h) σ R
theorem s_brk : PS X (.Break pos) (RS G E C .brk) := ps_break.of fun D σ H ⟨ρ, η, St, R, h⟩ => (fl (f := .brk η) (E := E) R.st h) σ R
theorem s_cont : PS X (.Continue pos) (RS G E C .cont) := ps_continue.of fun D σ H ⟨ρ, η, St, R, h⟩ => (fl (f := .cont η) (E := E) R.st h) σ R
theorem s_expr (he : PE X e (RE G none (wE E) C ie)) (hs : swapsWith e none pos.line X.env = pure false := by rfl) : PS X (.Expr e pos) (RS G E C (.expr ie)) :=
  (ps_expr he hs).of fun D σ H ⟨ρ, η, St, R, h⟩ => rdS1 (f := fun _ S1 => .ok (.nx η) S1) R h fun w v ρ1 S1 H1 R1 e1 r1 h1 => h1.now R1.st σ R1
theorem s_ret (he : PE X e (RE G none (wE E) C ie)) : PS X (.Return (some e) pos) (RS G E C (.ret ie)) :=
  (ps_ret he).of fun D σ H ⟨ρ, η, St, R, h⟩ => rdS1 (f := fun w S1 => .ok (.ret w) S1) R h fun w v ρ1 S1 H1 R1 e1 r1 h1 => h1.now R1.st v r1
theorem s_retN : PS X (.Return none pos) (RS G E C .retN) := ps_retN.of fun D σ H ⟨ρ, η, St, R, h⟩ => (fl (f := .ret (.d .non)) (E := E) R.st h) _ (.d .non)
/-- never reached -/
theorem s_never (hc : C.P.cls[9999]? = none := by rfl) : PS X st (RS G E C (.raise 9999 .nil)) := ps_never.of fun D σ H ⟨ρ, η, St, R, h⟩ => by
  replace h : Sat G E ρ St H (match C.P.cls[9999]? with
    | some k => match k.exc with
      | some fs => match fieldsOf fs [] with
        | some ds => .exc 9999 ds St
        | none => .stk
      | none => .stk
    | none => .stk) (FlowOk G D) := h
  rw [hc] at h
  exact h
theorem s_if {sa sb : List Stmt} {ja jb : ISs} (hc : PT X c (RT G none (wE E) C ie)) (ha : PSs X sa (RSs G E C ja)) (hb : PSs X sb (RSs G E C jb)) : PS X (.If c sa sb pos) (RS G E C (.ife ie ja jb)) :=
  (ps_if hc ha hb).of fun D σ H ⟨ρ, η, St, R, h⟩ => rd1t (Wx := wE E) (f := fun k S1 => if k = true then execSs C ja η S1 else execSs C jb η S1) R h fun z ρ1 S1 H1 R1 e1 h1 => by
    cases z with
    | true => exact ⟨ρ1, η, S1, R1, h1⟩
    | false => exact ⟨ρ1, η, S1, R1, h1⟩
theorem asg_of {t : IT} {D : Ends} {σ : L2.St} {H : Hp} (q : RS G E C (.asg t ie) D σ H) : tAsg (RE G none (wE E) C ie) (RdG G (IT.names t) (setT C t)) D σ H := by
  obtain ⟨ρ, η, St, R, h⟩ := q
  exact rdS1 (f := fun w S1 => (noExc (setT C t w η S1)).bind fun η1 S2 => .ok (.nx η1) S2) R h fun w v ρ1 S1 H1 R1 e1 r1 h1 =>
    ⟨ρ1, η, S1, w, R1, r1, (h1.bindN (W2 := noX)).mono fun η1 ρ2 S2 H2 _ _ ⟨e2, R2, h2⟩ σ' RA sb => h2.now R2 σ' RA⟩
theorem s_asg {t : IT} (he : PE X e (RE G none (wE E) C ie)) (hg : PG X tg (RdG G (IT.names t) (setT C t))) (hs : swapsWithSole [tg] e pos.line X.env = pure false := by rfl) (hw : swappedStores [tg] e X.env = pure none := by rfl) (h1 : (assignEach [tg] X.env).map (·.2) = [assign tg X.env] := by rfl) : PS X (.Assign [tg] e pos) (RS G E C (.asg t ie)) :=
  (ps_asg he hg hs hw h1).of fun D σ H q => asg_of q
theorem set_nm {D : Ends} {σ : L2.St} {H : Hp} {v : V} {K : St → Hp → Prop} (h : RdG G (IT.names (.nm i)) (setT C (.nm i)) v σ H K) : gName i v σ H K := by
  obtain ⟨ρ, η, St, w, R, r, h⟩ := h
  replace h : Sat G noX ρ St H (noExc (if i < η.length then .ok (η.set i (some w)) St else .stk)) _ := h
  split at h
  · next hl => exact h.now R.st _ (R.set r hl) (same_set i _)
  · exact h.elim
theorem s_set (S : Sd G (wE E) C k X) (hi : X.N[i]? = some x) (hx : Loc X.env.scope x) (he : PE X e (RE G none (wE E) C ie)) (hs : swapsWith e (some (.Name x pos')) pos.line X.env = pure false := by rfl)
    (hf : X.fn x = true ∨ X.env.scope.names.lookup x = some .local := by first | exact .inl rfl | exact .inr rfl | assumption) : PS X (.Assign [.Name x pos'] e pos) (RS G E C (.asg (.nm i) ie)) :=
  (ps_set S.nd hi hx he hs hf).of fun D σ H ⟨ρ, η, St, R, h⟩ => rdS1 (f := fun w S1 => (noExc (setT C (.nm i) w η S1)).bind fun η1 S2 => .ok (.nx η1) S2) R h fun w v ρ1 S1 H1 R1 e1 r1 h1 =>
    set_nm (D := D) ⟨ρ1, η, S1, w, R1, r1, (h1.bindN (W2 := noX)).mono fun η1 ρ2 S2 H2 _ _ ⟨e2, R2, h2⟩ σ' RA sb => h2.now R2 σ' RA⟩
/-- name = [..] on one line -/
theorem s_setLc {t : IT} {io : IO} {it : II} {own : List (Str × Nat)} {vs : List Nat} {elt iter : Expr} {ifs : List Expr} {scope : Scope} {y : Str} {py spos : Pos} (S : Sd G (wE E) C k X) (hy : X.N[i]? = some y) (hyl : X.env.scope.names.lookup y = some .local)
    (hsw : swapsWith (.ListComp elt [⟨tg, iter, ifs, 0⟩] scope pos) (some (.Name y py)) spos.line X.env = pure true)
    (ok : BlkOk X.N X.env.scope scope own) (hvs : vs = own.map (·.2)) (hi : PI X tg iter (RdI G (wE E) (evalI C it)))
    (hg : ∀ (s : Shared) (H : Hp) (Cc : Addr) (cl : List (Str × Addr)) (fp : List Addr), Sd G noW C k (X.blk s H scope (compEnvC scope cl Cc X.env) fp) → PG (X.blk s H scope (compEnvC scope cl Cc X.env) fp) tg (RdG G (IT.names t) (setT C t)))
    (ht : ∀ (s : Shared) (H : Hp) (Cc : Addr) (cl : List (Str × Addr)) (fp : List Addr), Sd G noW C k (X.blk s H scope (compEnvC scope cl Cc X.env) fp) → PTs (X.blk s H scope (compEnvC scope cl Cc X.env) fp) ifs (RdT G none noW (evalC C io)))
    (he : ∀ (s : Shared) (H : Hp) (Cc : Addr) (cl : List (Str × Addr)) (fp : List Addr), Sd G noW C k (X.blk s H scope (compEnvC scope cl Cc X.env) fp) → PE (X.blk s H scope (compEnvC scope cl Cc X.env) fp) elt (RE G none noW C ie))
    (hown : ((IT.names t).all fun j => vs.contains j) = true := by rfl) (hs : ∀ x, foldedSetIterable iter X.env x = pure x := by intro _; rfl) :
    PS X (.Assign [.Name y py] (.ListComp elt [⟨tg, iter, ifs, 0⟩] scope pos) spos) (RS G E C (.asg (.nm i) (.lc ie vs t it io))) := by
  subst hvs
  refine (ps_setLc S.calm S.nd hy hyl hsw hi ok (fun s H Cc cl fp => hg s H Cc cl fp (S.blk ..)) (fun s H Cc cl fp => ht s H Cc cl fp (S.blk ..)) (fun s H Cc cl fp => he s H Cc cl fp (S.blk ..)) hs).of fun D σ H q => ?_
  obtain ⟨ρ, η, St, R, h⟩ := q
  refine lc_loop (Wx := wE E) (fun j hj => by
    have := List.all_eq_true.mp hown j hj
    simpa using this) (rdS1 (f := fun w S1 => (noExc (setT C (.nm i) w η S1)).bind fun η1 S2 => .ok (.nx η1) S2) R h fun w v ρ1 S1 H1 R1 e1 r1 h1 =>
    set_nm (D := D) ⟨ρ1, η, S1, w, R1, r1, (h1.bindN (W2 := noX)).mono fun η1 ρ2 S2 H2 _ _ ⟨e2, R2, h2⟩ σ' RA sb => h2.now R2 σ' RA⟩)
/-- name = [..] on one line, the list gets a cell -/
theorem s_par {j : Nat} {y : Str} {px py pt : Pos} {kt k2 pt2} {es : IEs} (S : Sd G (wE E) C k X) (hi : X.N[i]? = some x) (hj : X.N[j]? = some y) (ha : PA X [a, b] (REs G none (wE E) C es))
    (hx : X.env.scope.names.lookup x = some .local := by rfl) (hy : X.env.scope.names.lookup y = some .local := by rfl) (hij : i ≠ j := by decide)
    (hw : swappedStores [.Tuple [.Name x px, .Name y py] kt pt] (.Tuple [a, b] k2 pt2) X.env = pure (some [x, y]) := by rfl)
    (hs : swapsWithSole [.Tuple [.Name x px, .Name y py] kt pt] (.Tuple [a, b] k2 pt2) pos.line X.env = pure false := by rfl) :
    PS X (.Assign [.Tuple [.Name x px, .Name y py] kt pt] (.Tuple [a, b] k2 pt2) pos) (RS G E C (.par [i, j] es)) :=
  (ps_par S.calm S.nd hi hj hij hx hy ha hw hs).of fun D σ H ⟨ρ, η, St, R, h⟩ => rd1s (Wx := wE E) (f := fun ws S1 => (ofO (setNs [i, j] ws η) S1).bind fun η1 S2 => Res.ok (Flow.nx η1) S2) R h fun ws vs ρ1 S1 H1 R1 e1 r1 h1 => by
    obtain ⟨η1, e, h2⟩ := h1.ofO_bind
    cases r1 with
    | nil => cases e
    | cons ra rb =>
      cases rb with
      | nil =>
        unfold setNs at e
        split at e <;> cases e
      | cons rb rc =>
        cases rc with
        | nil =>
          unfold setNs at e
          split at e
          · next h1 =>
            unfold setNs at e
            split at e
            · next h2' =>
              cases e
              exact ⟨_, _, rfl, h2.now R1.st _ ((R1.set ra h1).set rb h2')⟩
            · cases e
          · cases e
        | cons _ _ =>
          unfold setNs at e
          split at e
          · unfold setNs at e
            split at e <;> cases e
          · cases e
/-! ### loops -/
theorem s_while {body : List Stmt} {jb : ISs} (hp : PassesOwn (model X.prog X.w) X.A X.env X.xe) (hc : PT X c (RT G none (wE E) C ie)) (hb : PSs X body (RSs G E C jb)) : PS X (.While c body [] pos) (RS G E C (.whl ie jb)) :=
  (ps_while hp hc hb).of fun D σ H ⟨ρ, η, St, R, h⟩ => by
    replace h : Sat G E ρ St H (whileL (evalT C ie) (execSs C jb) C.fu η St) (FlowOk G D) := h
    refine ⟨fun m σ H => ∃ ρ η S, RelAll G none ρ η S σ H ∧ Sat G E ρ S H (whileL (evalT C ie) (execSs C jb) m η S) (FlowOk G D), ⟨C.fu, ρ, η, St, R, h⟩, ?_⟩
    rintro m σ H ⟨ρ, η, S, R, h⟩
    cases m with
    | zero => exact h.elim
    | succ m =>
      unfold whileL at h
      refine rd1t (Wx := wE E) (m := evalT C ie) R h fun z ρ1 S1 H1 R1 e1 h1 => ?_
      cases z with
      | false =>
        simp only [Bool.false_eq_true, if_false] at h1 ⊢
        exact h1.now R1.st σ R1
      | true =>
        simp only [if_true] at h1 ⊢
        refine ⟨fun σ H => ∃ ρ η S, RelAll G none ρ η S σ H ∧ Sat G E ρ S H (whileL (evalT C ie) (execSs C jb) m η S) (FlowOk G D), fun σ' H' q => ⟨m, Nat.lt_succ_self _, q⟩, ρ1, η, S1, R1, h1.bind.mono fun f ρ2 S2 H2 _ _ ⟨e2, R2, h2⟩ => ?_⟩
        cases f with
        | nx η2 => exact fun σ2 RA => ⟨ρ2, η2, S2, RA, h2⟩
        | cont η2 => exact fun σ2 RA => ⟨ρ2, η2, S2, RA, h2⟩
        | brk η2 => exact fun σ2 RA => h2.now R2 σ2 RA
        | ret w => exact fun v r => h2.now R2 v r
theorem s_for {t : IT} {it : II} {iter : Expr} {body : List Stmt} {jb : ISs} (S : Sd G (wE E) C k X) (hp : PassesOwn (model X.prog X.w) X.A X.env X.xe) (hi : PI X tg iter (RdI G (wE E) (evalI C it))) (hg : PG X tg (RdG G (IT.names t) (setT C t))) (hb : PSs X body (RSs G E C jb))
    (hs : ∀ x, foldedSetIterable iter X.env x = pure x := by intro _; rfl) : PS X (.For tg iter body [] pos) (RS G E C (.for_ t it jb)) :=
  (ps_for hp S.calm hi hg hb hs).of fun D σ H ⟨ρ, η, St, R, h⟩ => by
    replace h : Sat G E ρ St H ((evalI C it η St).bind fun src S1 => forSrc (setT C t) (execSs C jb) src η S1) (FlowOk G D) := h
    refine ⟨ρ, η, St, R, h.bind.mono fun src ρ1 S1 H1 _ _ ⟨e1, R1, h1⟩ J hJ => ?_⟩
    have RA1 := R.mono e1 R1
    cases src with
    | fix xs =>
      refine ⟨fun i m σ H => m = xs.length - i ∧ i ≤ xs.length ∧ ∃ ρ η S, EK ρ1 S1 H1 ρ S H ∧ RelAll G none ρ η S σ H ∧ Sat G E ρ S H (forFix (setT C t) (execSs C jb) (xs.drop i) η S) (FlowOk G D),
        ⟨_, rfl, Nat.zero_le _, ρ1, η, S1, Ext.refl.ek, RA1, h1⟩, ?_⟩
      rintro i m σ H ⟨rfl, hi, ρ, η, S, ek, R, h⟩
      by_cases hlt : i < xs.length
      · right
        refine ⟨hJ.go i ρ S H ek R.st hlt, fun σ H => ∃ ρ η S, EK ρ1 S1 H1 ρ S H ∧ RelAll G none ρ η S σ H ∧ Sat G E ρ S H (forFix (setT C t) (execSs C jb) (xs.drop (i + 1)) η S) (FlowOk G D),
          fun σ' H' q => ⟨xs.length - (i + 1), by omega, rfl, hlt, q⟩, fun v H2 y => ?_⟩
        obtain ⟨e2, R2, rx⟩ := hJ.yld i xs[i] v ρ S H H2 ek R.st (List.getElem?_eq_getElem hlt) y
        rw [List.drop_eq_getElem_cons hlt] at h
        unfold forFix at h
        have RA2 := R.mono e2 R2
        refine ⟨ρ, η, S, .d xs[i], RA2, .d rx, ((Sat.from e2 h).bindN (W2 := noX)).mono fun η3 ρ3 S3 H3 _ _ ⟨e3, R3, h3⟩ σ3 RA3 sb => ?_⟩
        have ek3 : EK ρ1 S1 H1 ρ3 S3 H3 := (ek.ext e2).ext e3
        refine ⟨ρ3, η3, S3, RA3, h3.bind.mono fun f ρ4 S4 H4 _ _ ⟨e4, R4, h4⟩ => ?_⟩
        have ek4 := ek3.ext e4
        cases f with
        | nx η4 => exact fun σ4 RA4 => ⟨ρ4, η4, S4, ek4, RA4, h4⟩
        | cont η4 => exact fun σ4 RA4 => ⟨ρ4, η4, S4, ek4, RA4, h4⟩
        | brk η4 => exact fun σ4 RA4 => h4.now R4 σ4 RA4
        | ret w => exact fun v r => h4.now R4 v r
      · left
        have hi' : i = xs.length := by omega
        subst hi'
        rw [List.drop_length] at h
        exact ⟨hJ.stop ρ S H ek R.st, (show Sat G E ρ S H (.ok (.nx η) S) (FlowOk G D) from h).now R.st σ R⟩
    | loc l n =>
      refine ⟨fun i m σ H => ∃ ρ η S, EK ρ1 S1 H1 ρ S H ∧ RelAll G none ρ η S σ H ∧ Sat G E ρ S H (forLoc (setT C t) (execSs C jb) l m i η S) (FlowOk G D),
        ⟨n, ρ1, η, S1, Ext.refl.ek, RA1, h1⟩, ?_⟩
      rintro i m σ H ⟨ρ, η, S, ek, R, h⟩
      cases m with
      | zero =>
        left
        unfold forLoc at h
        split at h
        · next ys hc =>
          split at h
          · next hle => exact ⟨hJ.stop i ys ρ S H ek R.st hc hle, h.now R.st σ R⟩
          · exact h.elim
        · exact h.elim
      | succ m =>
        right
        unfold forLoc at h
        split at h
        · next ys hc =>
          split at h
          · next x hx =>
            refine ⟨hJ.go i ys x ρ S H ek R.st hc hx, fun σ H => ∃ ρ η S, EK ρ1 S1 H1 ρ S H ∧ RelAll G none ρ η S σ H ∧ Sat G E ρ S H (forLoc (setT C t) (execSs C jb) l m (i + 1) η S) (FlowOk G D),
              fun σ' H' q => ⟨m, Nat.lt_succ_self _, q⟩, fun v H2 y => ?_⟩
            obtain ⟨e2, rx⟩ := hJ.yld i ys x v ρ S H H2 ek R.st hc hx y
            subst e2
            refine ⟨ρ, η, S, .d x, R, .d rx, (h.bindN (W2 := noX)).mono fun η3 ρ3 S3 H3 _ _ ⟨e3, R3, h3⟩ σ3 RA3 sb => ?_⟩
            have ek3 : EK ρ1 S1 H1 ρ3 S3 H3 := ek.ext e3
            refine ⟨ρ3, η3, S3, RA3, h3.bind.mono fun f ρ4 S4 H4 _ _ ⟨e4, R4, h4⟩ => ?_⟩
            have ek4 := ek3.ext e4
            cases f with
            | nx η4 => exact fun σ4 RA4 => ⟨ρ4, η4, S4, ek4, RA4, h4⟩
            | cont η4 => exact fun σ4 RA4 => ⟨ρ4, η4, S4, ek4, RA4, h4⟩
            | brk η4 => exact fun σ4 RA4 => h4.now R4 σ4 RA4
            | ret w => exact fun v r => h4.now R4 v r
          · exact h.elim
        · exact h.elim
end
end RI
/-! RI16: defs, by depth; what the head tells. -/
namespace RI
open PySem PySem.Spec PyProof.Rows L2

/-! ### a def's end -/
section
variable {G : Wd} {ρ ρ1 : Rho} {S S1 : Store} {H H1 : Hp} {E : XK} {keep : Bool} {Q : VK}
theorem RelX.mono {L L' : Addr → Prop} {fs : List (Nat × D)} {dx : Option Addr} (k : Kp L H L' H1) (h : RelX G L H fs dx) : RelX G L' H1 fs dx := by
  rcases h with h | ⟨d, vs, e, h, n, r⟩
  · exact .inl h
  · exact .inr ⟨d, vs, e, k.keep _ _ h fun z => absurd z n, k.out h n, r.mono k⟩
theorem freeze_ok {t : List Addr} {w w' : W} {v : V} (R : RelS G (ρ.app t) S1 H) (l : ρ.l.length = S.length) (hn : S.length ≤ S1.length) (r : RelW G none (Live (ρ.app t) S1) (ρ.app t) H w v) (e : freeze S.length w S1 = some w') :
    RelW G none (Live ρ (S1.take S.length)) ρ H w' v := by
  have k : Kp (Live (ρ.app t) S1) H (Live ρ (S1.take S.length)) H := kp_take hn l
  unfold freeze at e
  cases r with
  | d r => cases e; exact .d (r.mono k)
  | loc h =>
    dsimp only at e
    split at e
    · next hl =>
      cases e
      refine .loc ?_
      replace h : (ρ.l ++ t)[_]? = some _ := h
      rwa [List.getElem?_append_left (by rw [l]; exact hl)] at h
    · next hl =>
      rw [Option.map_eq_some_iff] at e
      obtain ⟨x, e, rfl⟩ := e
      rw [Option.bind_eq_some_iff] at e
      obtain ⟨c, hc, e⟩ := e
      refine .d ((R.cell _ _ _ hc h).data k e ?_)
      rintro (f | ⟨m, c', h1, h2, h3⟩)
      · exact (R.res _ f).2 (List.mem_of_getElem? h)
      · have hm := get_lt h3
        have := nd_inj R.nd (pre_get h3) h
        omega
  | scr h => cases e
  | exn h => cases h
theorem finish_ok (R : RelS G ρ S H) {r : Res Flow} (h : Sat G E ρ S H (finish keep S.length r) fun w ρ' S' H' => ∀ v, RelW G none (Live ρ' S') ρ' H' w v → Q v H') :
    Sat G E ρ S H r (FlowOk G { nx := fun _ H' => Q .non H', rt := Q }) := by
  have cl : ∀ (w : W) (S' : Store), Sat G E ρ S H (close keep S.length w S') (fun w ρ' S' H' => ∀ v, RelW G none (Live ρ' S') ρ' H' w v → Q v H') → ∀ ρ' H', Ext ρ S H ρ' S' H' → RelS G ρ' S' H' → ∀ v, RelW G none (Live ρ' S') ρ' H' w v → Q v H' := by
    intro w S' h ρ' H' e R' v rv
    unfold close at h
    split at h
    · exact h ρ' H' e R' v rv
    · split at h
      · next hb =>
        split at h
        · next w' hw =>
          obtain ⟨t, et⟩ := e.pre
          subst et
          exact h ρ H' (e.trunc R.len hb.2) (R'.trunc R.len hb.2 hb.1) v (freeze_ok R' R.len hb.2 rv hw)
        · exact h.elim
      · exact h.elim
  cases r with
  | ok f S' =>
    cases f with
    | nx η => exact fun ρ' H' e R' σ _ => cl (.d .non) S' h ρ' H' e R' .non (.d .non)
    | ret w => exact fun ρ' H' e R' v rv => cl w S' h ρ' H' e R' v rv
    | brk η => exact h.elim
    | cont η => exact h.elim
  | exc c fs S' =>
    intro dx ρ' H' e R' x
    unfold finish at h
    dsimp only at h
    split at h
    · exact h dx ρ' H' e R' x
    · split at h
      · next hb =>
        obtain ⟨t, et⟩ := e.pre
        subst et
        exact h dx ρ H' (e.trunc R.len hb.2) (R'.trunc R.len hb.2 hb.1) (x.mono (kp_take hb.2 R.len))
      · exact h.elim
  | stk => exact h.elim
theorem start_rel {N : List Str} (R : RelS G ρ S H) {ws : List W} {vs : List V} (r : RelWs G none (Live ρ S) ρ H ws vs) : RelAll G none ρ (startE N.length ws) S (L2.start N vs) H := by
  have l := r.length
  refine ⟨R, by simp [startE, L2.start, l], fun i w h => ?_⟩
  unfold startE at h
  by_cases hi : i < ws.length
  · rw [List.getElem?_append_left (by simpa using hi), List.getElem?_map] at h
    cases hq : ws[i]? with
    | none => rw [hq] at h; cases h
    | some q =>
      rw [hq] at h
      cases h
      obtain ⟨v, hv, rv⟩ := r.get hq
      refine ⟨v, ?_, rv⟩
      unfold L2.start
      rw [List.getElem?_append_left (by simp; omega), List.getElem?_map, hv]
      rfl
  · rw [List.getElem?_append_right (by simpa using hi)] at h
    rw [List.getElem?_replicate] at h
    split at h <;> cases h
end
/-! ### what is known of the text, at any depth -/
structure Gf (G : Wd) (P : Prog) (K : PySem.W.Frag) (mg : Str → Option Value) : Prop where
  hK : K = G.K
  fmg : ∀ f fd, P.fns[f]? = some fd → fd.top = true → mg fd.name = some (.ref (G.fa f))
  cmg : ∀ c d, P.cls[c]? = some d → mg d.name = some (.ref (G.ca c))
  bmg : ∀ x ∈ bltNames, mg x = none
  cst : ∀ (k : Nat) d x, P.consts[k]? = some d → P.cnm[k]? = some x → ∃ v u, mg x = some u ∧ RelV v u ∧ ∀ L H, RelD G L H d v
  clf : ∀ c, ordC P c = true → ClsF G K P c
  mkf : ∀ c d f, P.cls[c]? = some d → d.init = some f → Mk K (G.ca c) (G.fa f)
  eqm : ∀ c d f, P.cls[c]? = some d → lookN 0 d.meths = some f → EqF G K c f ∧ ∃ fd, P.fns[f]? = some fd ∧ fd.np = 2
  nmI : ∀ f g, G.nm f = G.nm g → f = g
  kit : ∀ t u, tyOk0 P t = true → tyOk P u = true → PySem.W.kitOne K (tyVal G t) (tyVal G u) = some (tyIs P t u)
/-- every name's id has a name of its own -/
def nmOf (ns : List Str) (k : Nat) : Str := ns.getD k (Str' (35 :: List.replicate k 35))
/-- one def's text and its program in the small language -/
structure FnAll (P : Prog) (ns : List Str) (fd : FnD) (d : He.DefD) : Prop where
  body : ∀ (G : Wd), G.nm = nmOf ns → ∀ (Pm : Program) (w : World) (K : PySem.W.Frag) (mg : Str → Option Value) (base : Heap) (fa : Addr) (cdv : Value) (A : Around) (outer : List PySem.Env) (s : Shared) (H : Hp) (E : XK) (call : Nat → List W → Store → Res W) (fu k : Nat),
    Sd G (wE E) ⟨call, P, fu⟩ k (cxOf (L2.CX Pm w) Pm w K mg base fd.N d.qual d.scope fa cdv A outer s H E) →
    PassesOwn (model Pm w) (cxOf (L2.CX Pm w) Pm w K mg base fd.N d.qual d.scope fa cdv A outer s H E).A (cxOf (L2.CX Pm w) Pm w K mg base fd.N d.qual d.scope fa cdv A outer s H E).env (cxOf (L2.CX Pm w) Pm w K mg base fd.N d.qual d.scope fa cdv A outer s H E).xe →
    PSs (cxOf (L2.CX Pm w) Pm w K mg base fd.N d.qual d.scope fa cdv A outer s H E) d.body (RSs G E ⟨call, P, fu⟩ fd.body)
  sc : FnScope fd.N (fd.N.take fd.np) d.scope
  bd : ∀ (kV doc pm : Value) (an : Option Addr) (cdv ct : Value) (us : List Value), us.length = (fd.N.take fd.np).length → bindArgs (PySem.W.fnOf d.name d.qual d.params d.body d.scope .none kV doc pm an cdv ct) ⟨us, []⟩ = pure ((fd.N.take fd.np).zip us)
  dfl : d.dfl = [] ∧ d.kwd = []
  le : fd.np ≤ fd.N.length
inductive AllF (P : Prog) (ns : List Str) : List FnD → List He.DefD → Prop where
  | nil : AllF P ns [] []
  | cons {fd : FnD} {d : He.DefD} {fds : List FnD} {ds : List He.DefD} : FnAll P ns fd d → AllF P ns fds ds → AllF P ns (fd :: fds) (d :: ds)
theorem AllF.get {P : Prog} {ns : List Str} {fds : List FnD} {ds : List He.DefD} (h : AllF P ns fds ds) : ∀ {f : Nat} {fd : FnD}, fds[f]? = some fd → ∃ d, ds[f]? = some d ∧ FnAll P ns fd d := by
  induction h with
  | nil => intro f fd e; simp at e
  | cons h hs ih =>
    intro f fd e
    cases f with
    | zero => simp at e; subst e; exact ⟨_, rfl, h⟩
    | succ f =>
      obtain ⟨d, e1, e2⟩ := ih (f := f) (fd := fd) (by simpa using e)
      exact ⟨d, by simpa using e1, e2⟩
theorem spF_len {G : Wd} {call : List W → Store → Res W} {np : Nat} {vs : List V} {H : Hp} {Q : VK} {E : XK} (h : spF G call np vs H Q E) : vs.length = np := by
  obtain ⟨ρ, S, ws, R, r, l, _⟩ := h
  rw [← r.length, l]
/-- the addresses of the text's defs are those that the head tells of -/
def FaOk (G : Wd) (K : PySem.W.Frag) (ds : List He.DefD) : Prop := ∀ f d, ds[f]? = some d → G.fa f = He.fAd K d.at_
theorem fn_all {G : Wd} {P : Prog} {Pm : Program} {w : World} {K : PySem.W.Frag} {mg : Str → Option Value} {base : Heap} {ds : List He.DefD} {fu : Nat} {ns : List Str} (g : Gf G P K mg) (hnm : G.nm = nmOf ns) (A : AllF P ns P.fns ds) (fa : FaOk G K ds)
    (dd : ∀ d ∈ ds, ∃ fd, FunD K d.name d.qual d.params d.body d.scope (d.dvs K) (d.kws K) (He.fAd K d.at_) fd) :
    ∀ (n f : Nat) (fd : FnD) (d : He.DefD) (fdat : FuncData), P.fns[f]? = some fd → ds[f]? = some d → FnAll P ns fd d → FunD K d.name d.qual d.params d.body d.scope [] [] (He.fAd K d.at_) fdat →
      FnOk Pm w K mg base (L2.CX Pm w) (2 * n) (G.fa f) fdat (fd.N.take fd.np) (spF G (callF P fu n f) fd.np) := by
  intro n
  induction n with
  | zero =>
    intro f fd d fdat hf hd F FD
    have lp : (fd.N.take fd.np).length = fd.np := by
      rw [List.length_take]
      exact Nat.min_eq_left F.le
    refine ⟨fun vs H Q E h => by rw [lp]; exact spF_len h, fun A outer s H args us vs Q E hr e0 hb rv h => ?_⟩
    obtain ⟨ρ, S, ws, R, r, l, hs⟩ := h
    exact hs.elim
  | succ n ih =>
    intro f fd d fdat hf hd F FD
    have lp : (fd.N.take fd.np).length = fd.np := by
      rw [List.length_take]
      exact Nat.min_eq_left F.le
    rw [fa f d hd]
    show FnOk Pm w K mg base (L2.CX Pm w) (2 * n + 1 + 1) _ _ _ _
    refine FD.ok F.sc (fun vs H Q E h => by rw [lp]; exact spF_len h) fun cdv A0 outer s H vs Q E hr h => ?_
    have S : Sd G (wE E) ⟨callF P fu n, P, fu⟩ (2 * n) (cxOf (L2.CX Pm w) Pm w K mg base fd.N d.qual d.scope (He.fAd K d.at_) cdv A0 outer s H E) :=
      { hK := g.hK, nd := F.sc.nd, tk := takes_of rfl rfl rfl rfl, calm := rfl, un := Nat.lt_of_le_of_lt (Nat.le_trans (Nat.add_le_add_left (by decide : 66 ≤ 200) _) (Nat.add_le_add_right (Nat.le_add_right _ _) _)) hr.un, room := hr, fok := fun f' fd' h' => ?_, fmg := g.fmg, cmg := g.cmg, bmg := g.bmg, cst := g.cst, clf := g.clf, mkf := g.mkf, eqm := g.eqm, nmI := g.nmI, kit := g.kit }
    · refine ⟨_, F.body G hnm Pm w K mg base _ cdv A0 outer s H E (callF P fu n) fu (2 * n) S (passes_of rfl), ?_⟩
      obtain ⟨ρ, St, ws, R, r, l, hs⟩ := h
      refine ⟨ρ, startE fd.N.length ws, St, start_rel R r, ?_⟩
      replace hs : Sat G E ρ St H (match P.fns[f]? with
        | some fd => if ws.length = fd.np then finish fd.keep St.length (execSs ⟨callF P fu n, P, fu⟩ fd.body (startE fd.N.length ws) St) else .stk
        | none => .stk) _ := hs
      rw [hf] at hs
      dsimp only at hs
      rw [if_pos l] at hs
      exact finish_ok R hs
    · obtain ⟨d', hd', F'⟩ := A.get h'
      obtain ⟨fdat', FD'⟩ := dd d' (List.mem_of_getElem? hd')
      have e1 : d'.dvs K = [] := by unfold He.DefD.dvs; rw [F'.dfl.1]; rfl
      have e2 : d'.kws K = [] := by unfold He.DefD.kws; rw [F'.dfl.2]; rfl
      rw [e1, e2] at FD'
      refine ⟨⟨fdat', _, ?_, ih f' fd' d' fdat' h' hd' F' FD', FD'.bindsN F'.bd⟩, ?_⟩
      · rw [List.length_take]
        exact Nat.min_eq_left F'.le
      · rw [fa f' d' hd']
        exact FD'.kp
/-! ### the facts, by one Bool over what the head leaves -/
section
variable (K : PySem.W.Frag)
def atN (x : Str) (u : Option Value) : Bool := He.eqO (PySem.W.nsIn K mainGlobals x) (some u)
mutual
def cB : D → Value → Bool
  | .non, .none => true
  | .bl b, .bool c => b == c
  | .int i, .int j _ => decide (i = j)
  | .str x, .str y _ => decide (Str' x = y)
  | .tup xs, .ref a => match K.lookup a with
    | some ⟨.type c, _, .seq its _, _⟩ => decide (c = "tuple") && (decide (its.size ≤ sizeLine) && cBs xs its.toList)
    | _ => false
  | _, _ => false
termination_by structural x => x
def cBs : List D → List Value → Bool
  | [], [] => true
  | x :: xs, u :: us => cB x u && cBs xs us
  | _, _ => false
termination_by structural x => x
end
end
mutual
theorem cB_ok {G : Wd} : ∀ {d : D} {u : Value}, cB G.K d u = true → ∃ v, RelV v u ∧ ∀ L H, RelD G L H d v
  | .non, u, h => by
    cases u <;> first | exact ⟨.non, rfl, fun _ _ => .non⟩ | cases h
  | .bl b, u, h => by
    cases u <;> first | cases h | skip
    rename_i c
    have h : (b == c) = true := h
    rw [beq_iff_eq] at h; subst h; exact ⟨.bl b, rfl, fun _ _ => .bl b⟩
  | .int i, u, h => by
    cases u <;> first | cases h | skip
    have h := of_decide_eq_true h; subst h; exact ⟨.int i, ⟨_, rfl⟩, fun _ _ => .int i⟩
  | .str x, u, h => by
    cases u <;> first | cases h | skip
    have h := of_decide_eq_true h; subst h; exact ⟨.str (Str' x), ⟨_, rfl⟩, fun _ _ => .str x⟩
  | .tup xs, u, h => by
    cases u <;> first | cases h | skip
    rename_i a
    unfold cB at h
    split at h
    · next c dd its sl n' hl =>
      rw [Bool.and_eq_true, Bool.and_eq_true] at h
      obtain ⟨h1, h2, h3⟩ := h
      obtain ⟨vs, hv, hr⟩ := cBs_ok (G := G) (ds := xs) h3
      have h1 := of_decide_eq_true h1
      have h2 := of_decide_eq_true h2
      subst h1
      exact ⟨.ref a, rfl, fun L H => .tup (.inr ⟨_, _, _, hl, rfl, rfl, h2, hv⟩) (hr L H)⟩
    · cases h
  | .lst xs, u, h => by cases u <;> cases h
  | .dic xs, u, h => by cases u <;> cases h
  | .obj c fs, u, h => by cases u <;> cases h
  | .fn f, u, h => by cases u <;> cases h
theorem cBs_ok {G : Wd} : ∀ {ds : List D} {us : List Value}, cBs G.K ds us = true → ∃ vs, Vals vs us ∧ ∀ L H, RelDs G L H ds vs
  | [], [], _ => ⟨[], .nil, fun _ _ => .nil⟩
  | d :: ds, u :: us, h => by
    have h : (cB G.K d u && cBs G.K ds us) = true := h
    rw [Bool.and_eq_true] at h
    obtain ⟨v, r, hd⟩ := cB_ok (G := G) (d := d) h.1
    obtain ⟨vs, rs, hds⟩ := cBs_ok (G := G) (ds := ds) h.2
    exact ⟨v :: vs, .cons r rs, fun L H => .cons (hd L H) (hds L H)⟩
  | [], u :: us, h => by cases h
  | d :: ds, [], h => by cases h
end
def nmOk (ns : List Str) : Bool := decide ns.Nodup && ns.all fun x => x.cps.toList.head? != some 35
theorem nmOf_inj {ns : List Str} (h : nmOk ns = true) (f g : Nat) (e : nmOf ns f = nmOf ns g) : f = g := by
  unfold nmOk at h
  rw [Bool.and_eq_true] at h
  obtain ⟨h1, h2⟩ := h
  have h1 := of_decide_eq_true h1
  have out : ∀ k, ns.length ≤ k → nmOf ns k = Str' (35 :: List.replicate k 35) := fun k hk => by
    unfold nmOf
    rw [List.getD_eq_getElem?_getD, List.getElem?_eq_none hk]; rfl
  have inn : ∀ k (hk : k < ns.length), nmOf ns k = ns[k] := fun k hk => by
    unfold nmOf
    rw [List.getD_eq_getElem?_getD, List.getElem?_eq_getElem hk]; rfl
  have no : ∀ k (hk : k < ns.length) m, ns[k] ≠ Str' (35 :: List.replicate m 35) := fun k hk m z => by
    have := List.all_eq_true.mp h2 _ (List.getElem_mem hk)
    rw [z] at this
    simp at this
  by_cases hf : f < ns.length
  · by_cases hg : g < ns.length
    · rw [inn f hf, inn g hg] at e
      exact (List.getElem_inj h1).mp e
    · rw [inn f hf, out g (by omega)] at e
      exact (no f hf g e).elim
  · by_cases hg : g < ns.length
    · rw [out f (by omega), inn g hg] at e
      exact (no g hg f e.symm).elim
    · rw [out f (by omega), out g (by omega)] at e
      have e := str_inj e
      simpa using congrArg List.length e
/-- the world of a law -/
def wdOf (P : Prog) (ds : List He.DefD) (ns : List Str) (K : PySem.W.Frag) : Wd where
  K := K
  ca c := He.ga K ((P.cls[c]?.map (·.name)).getD Str.empty)
  fa f := He.fAd K ((ds[f]?.map (·.at_)).getD (Str.empty, none))
  nm := nmOf ns
section
variable (P : Prog) (ds : List He.DefD) (ns : List Str) (K : PySem.W.Frag)
def clsB (c : Nat) : Bool :=
  let C := (wdOf P ds ns K).ca c
  (PySem.W.plainGet K C Str.empty && (PySem.W.hasDictIn K C && (PySem.W.plainOver K C && He.eqO (PySem.W.findIn K (.ref C) "__setattr__") (some (some (.builtin "object.__setattr__")))))) &&
  (PySem.W.keepIn K (.ref C) && (He.eqO (PySem.W.findIn K (.ref C) "__class__") (some (some (.builtin "object.__class__"))) && (He.eqO (PySem.W.specialIn K (.builtin "object.__class__") "__get__") (some (some (.builtin "getset_descriptor.__get__"))) &&
    (decide (PySem.W.takesIn K (.builtin "object.__class__") = some true) && (decide (PySem.W.mroIn K C (.type "object") = some true) && P.flds.all fun f => He.eqO (PySem.W.findIn K (.ref C) (nmOf ns f)) (some none))))))
def mkB (c f : Nat) : Bool :=
  let C := (wdOf P ds ns K).ca c
  let F := (wdOf P ds ns K).fa f
  PySem.W.makesIn K C && (He.eqO (PySem.W.findIn K (.ref C) "__init__") (some (some (.ref F))) && (PySem.W.isFn K (.ref F) && PySem.W.keepIn K (.ref C)))
def eqB (c f : Nat) : Bool :=
  let C := (wdOf P ds ns K).ca c
  let F := (wdOf P ds ns K).fa f
  He.eqO (PySem.W.findIn K (.ref C) "__eq__") (some (some (.ref F))) && (He.eqO (PySem.W.findIn K (.ref C) "__ne__") (some (some (.builtin "object.__ne__"))) && (PySem.W.isFn K (.ref F) && (decide (PySem.W.mroIn K C (.type "object") = some true) &&
    (match P.fns[f]? with
    | some fd => decide (fd.np = 2)
    | none => false))))
def ordCs : List Nat := (List.range P.cls.length).filter (ordC P)
def tys0 : List Ty := [.none, .bool, .int, .str, .tuple, .list, .dict] ++ (ordCs P).map .cls
def tys1 : List Ty := [.bool, .int, .str, .tuple, .list] ++ (ordCs P).map .cls
def ex : Bool :=
  ((P.fns.zipIdx.all fun q => !q.1.top || atN K q.1.name (some (.ref ((wdOf P ds ns K).fa q.2)))) && (P.cls.zipIdx.all fun q => atN K q.1.name (some (.ref ((wdOf P ds ns K).ca q.2))))) &&
  ((bltNames.all fun x => atN K x none) && ((P.consts.zip P.cnm).all fun q => match PySem.W.nsIn K mainGlobals q.2 with
    | some (some u) => cB K q.1 u
    | _ => false)) &&
  (((ordCs P).all (clsB P ds ns K)) && (P.cls.zipIdx.all fun q => (match q.1.init with
    | some f => mkB P ds ns K q.2 f
    | none => true) && (match lookN 0 q.1.meths with
    | some f => eqB P ds ns K q.2 f
    | none => true))) &&
  ((tys0 P).all fun t => (tys1 P).all fun u => decide (PySem.W.kitOne K (tyVal (wdOf P ds ns K) t) (tyVal (wdOf P ds ns K) u) = some (tyIs P t u)))
end
theorem ns_at {K : PySem.W.Frag} {h : Heap} {mg : Str → Option Value} (X : K.In h) (G : h.Ns mainGlobals mg) {x : Str} {u : Option Value} (c : PySem.W.nsIn K mainGlobals x = some u) : mg x = u := by
  cases u with
  | none => exact PySem.W.mg_none_of X G c
  | some u => exact PySem.W.mg_of X G c
theorem gf_of {P : Prog} {ds : List He.DefD} {ns : List Str} {K : PySem.W.Frag} {h : Heap} {mg : Str → Option Value} (X : K.In h) (G : h.Ns mainGlobals mg) (hn : nmOk ns = true) (hl : P.cnm.length = P.consts.length) (c : ex P ds ns K = true) : Gf (wdOf P ds ns K) P K mg := by
  unfold ex at c
  simp only [Bool.and_eq_true] at c
  obtain ⟨⟨⟨⟨c1, c2⟩, c3, c4⟩, c5, c6⟩, c7⟩ := c
  have at_ : ∀ {x : Str} {u : Option Value}, atN K x u = true → mg x = u := fun h => ns_at X G (He.eqO_ok h)
  have cls : ∀ c, ordC P c = true → c ∈ ordCs P := fun c hc => by
    unfold ordCs
    rw [List.mem_filter, List.mem_range]
    refine ⟨?_, hc⟩
    unfold ordC at hc
    split at hc
    · next e => exact (List.getElem?_eq_some_iff.mp e).1
    · cases hc
  have zi : ∀ {α : Type} {xs : List α} {i : Nat} {x : α}, xs[i]? = some x → (x, i) ∈ xs.zipIdx := fun e => by
    rw [List.mem_zipIdx_iff_getElem?]
    exact e
  have tys : ∀ t, tyOk0 P t = true → t ∈ tys0 P := fun t h => by
    unfold tys0
    cases t with
    | cls c => exact List.mem_append_right _ (List.mem_map.mpr ⟨c, cls c h, rfl⟩)
    | valueError => cases h
    | _ => exact List.mem_append_left _ (by simp)
  have tys' : ∀ t, tyOk P t = true → t ∈ tys1 P := fun t h => by
    unfold tys1
    cases t with
    | cls c => exact List.mem_append_right _ (List.mem_map.mpr ⟨c, cls c h, rfl⟩)
    | valueError => cases h
    | none => cases h
    | dict => cases h
    | _ => exact List.mem_append_left _ (by simp)
  refine { hK := rfl, fmg := fun f fd h1 h2 => ?_, cmg := fun c d h1 => at_ (List.all_eq_true.mp c2 _ (zi h1)), bmg := fun x h => at_ (List.all_eq_true.mp c3 x h), cst := fun k d x h1 h2 => ?_, clf := fun c hc => ?_, mkf := fun c d f h1 h2 => ?_, eqm := fun c d f h1 h2 => ?_, nmI := nmOf_inj hn, kit := fun t u ht hu => of_decide_eq_true (List.all_eq_true.mp (List.all_eq_true.mp c7 t (tys t ht)) u (tys' u hu)) }
  · have := List.all_eq_true.mp c1 _ (zi h1)
    rw [h2] at this
    exact at_ (by simpa using this)
  · have hm : (d, x) ∈ P.consts.zip P.cnm := List.mem_of_getElem? (i := k) (List.getElem?_zip_eq_some.mpr ⟨h1, h2⟩)
    have := List.all_eq_true.mp c4 _ hm
    dsimp only at this
    split at this
    · next u e =>
      obtain ⟨v, r, hr⟩ := cB_ok (G := wdOf P ds ns K) this
      exact ⟨v, u, ns_at X G e, r, hr⟩
    · cases this
  · have := List.all_eq_true.mp c5 c (cls c hc)
    unfold clsB at this
    simp only [Bool.and_eq_true] at this
    obtain ⟨⟨a1, a2, a3, a4⟩, a5, a6, a7, a8, a9, a10⟩ := this
    exact { cls := ⟨a1, a2, a3, He.eqO_ok a4⟩, kp := a5, ha := He.eqO_ok a6, hn := He.eqO_ok a7, htk := of_decide_eq_true a8, hm := of_decide_eq_true a9, na := fun f hf => He.eqO_ok (List.all_eq_true.mp a10 f hf) }
  · have := List.all_eq_true.mp c6 _ (zi h1)
    rw [Bool.and_eq_true] at this
    have := this.1
    dsimp only at this
    rw [h2] at this
    dsimp only at this
    unfold mkB at this
    simp only [Bool.and_eq_true] at this
    exact ⟨this.1, He.eqO_ok this.2.1, this.2.2.1, this.2.2.2⟩
  · have := List.all_eq_true.mp c6 _ (zi h1)
    rw [Bool.and_eq_true] at this
    have := this.2
    dsimp only at this
    rw [h2] at this
    dsimp only at this
    unfold eqB at this
    simp only [Bool.and_eq_true] at this
    obtain ⟨a1, a2, a3, a4, a5⟩ := this
    refine ⟨⟨He.eqO_ok a1, He.eqO_ok a2, a3, of_decide_eq_true a4⟩, ?_⟩
    split at a5
    · next fd e => exact ⟨fd, e, of_decide_eq_true a5⟩
    · cases a5
end RI
/-! RI17: a law's end. -/
namespace RI
open PySem PySem.Spec PyProof.Rows L2
theorem FnOk.quiet {Pm : Program} {w : World} {K : PySem.W.Frag} {mg : Str → Option Value} {base : Heap} {k : Nat} {f : Addr} {fd : FuncData} {ps : List Str} {sp : Sp} (F : FnOk Pm w K mg base (L2.CX Pm w) k f fd ps sp) :
    FnOk Pm w K mg base L2.CX0 k f fd ps (fun vs H Q _ => sp vs H Q fun _ _ _ => False) := by
  refine ⟨fun vs H Q E h => F.len vs H Q _ h, fun A outer s H args us vs Q E hr e0 hb r h => codeAny_mono (F.run A outer s H args us vs Q _ hr e0 hb r h) fun q s' hq => ?_⟩
  cases q with
  | error e =>
    obtain ⟨a, B, H', cls, d, h1⟩ := hq
    exact (h1.2.2.2.2.2.2.2).elim
  | ok fl => cases fl <;> exact hq
theorem law_facts {P : Prog} {ds : List He.DefD} {ns : List Str} {Pm : Program} {w : World} {K : PySem.W.Frag} {h : Heap} {mg : Str → Option Value} {fu n lid : Nat} {fd : FnD} {ld : He.DefD} {fA : Addr} (X : K.In h) (G : h.Ns mainGlobals mg)
    (A : AllF P ns P.fns ds) (hn : nmOk ns = true) (hl : P.cnm.length = P.consts.length) (hf : P.fns[lid]? = some fd) (hnp : fd.np = 1) (ht : fd.top = true) (hN : fd.N[0]? = some ("script" : Str))
    (hfa : mg fd.name = some (.ref fA)) (sd : He.SaysD [] ds K) (c : ex P ds ns K = true)
    (law : ∀ xs : List Int, xs.length ≤ 63 → ∃ S', callF P fu n lid [.scr xs] [] = .ok (.d (.bl true)) S') :
    ∃ (fdat : FuncData) (sp : Sp), (∀ (s : Shared) (u : Value), BindsTo s fdat ⟨[u], []⟩ [("script", u)]) ∧
      (∀ (H : Hp) (a : Addr) (xs : List Int), xs.length ≤ 63 → Only H → SqL K H a (xs.map V.int) → sp [.ref a] H (fun v _ => v = .bl true) fun _ _ _ => False) ∧
      ∀ base : Heap, K.In base → base.Ns mainGlobals mg → FnOk Pm w K mg base L2.CX0 (2 * n) fA fdat [("script" : Str)] sp := by
  have g := gf_of (P := P) (ds := ds) (ns := ns) X G hn hl c
  have fa : FaOk (wdOf P ds ns K) K ds := fun f d e => by
    show He.fAd K ((ds[f]?.map (·.at_)).getD _) = _
    rw [e]; rfl
  have eA : (wdOf P ds ns K).fa lid = fA := by
    have := (g.fmg lid fd hf ht).symm.trans hfa
    injection this with this
    injection this
  have ps1 : fd.N.take fd.np = [("script" : Str)] := by
    rw [hnp]
    cases hq : fd.N with
    | nil => rw [hq] at hN; simp at hN
    | cons a t => rw [hq] at hN; simp at hN; subst hN; rfl
  obtain ⟨d, hd, F⟩ := A.get hf
  obtain ⟨fdat, FD⟩ := sd.defs (List.mem_of_getElem? hd)
  have e1 : d.dvs K = [] := by unfold He.DefD.dvs; rw [F.dfl.1]; rfl
  have e2 : d.kws K = [] := by unfold He.DefD.kws; rw [F.dfl.2]; rfl
  rw [e1, e2] at FD
  refine ⟨fdat, fun vs H Q _ => spF (wdOf P ds ns K) (callF P fu n lid) fd.np vs H Q fun _ _ _ => False, fun s u => ?_, fun H a xs hx ho hs => ?_, fun base hb hbg => ?_⟩
  · have := FD.bindsA F.bd s [u] (by rw [ps1]; rfl)
    rw [ps1] at this
    exact this
  · obtain ⟨S', hc⟩ := law xs hx
    refine ⟨⟨[], fun _ => False⟩, [], [.scr xs], ⟨rfl, .nil, fun l c a h => by simp at h, fun a h => by simp at h, fun a f => f.elim⟩, .cons (.scr ?_) .nil, hnp.symm, ?_⟩
    · rcases hs with (hs | hs) | hs
      · rcases ho a with h0 | ⟨o, xs', h0⟩
        · rw [h0] at hs; cases hs
        · rw [h0] at hs; cases hs
      · exact .inl hs
      · exact .inr hs
    · rw [hc]
      exact fun ρ' H' e' R' v rv => by cases rv with | d rv => cases rv; rfl
  · have F1 := fn_all (Pm := Pm) (w := w) (base := base) (fu := fu) g rfl A fa (fun d hd => sd.defs hd) n lid fd d fdat hf hd F FD
    rw [eA, ps1] at F1
    exact FnOk.quiet F1
end RI
/-! RI18: the rules as a printed proof takes them: all side conditions by rfl. -/
namespace RI
open PySem PySem.Spec PyProof.Rows L2
def visB (sc : Scope) (x : Str) : Bool := match sc.names.lookup x with
  | some .local => true
  | some .cell => true
  | some .free => true
  | _ => false
theorem vis_of {sc : Scope} {x : Str} (h : visB sc x = true) : Vis sc x := by
  unfold visB at h
  split at h
  · next e => exact .inl e
  · next e => exact .inr (.inl e)
  · next e => exact .inr (.inr e)
  · cases h
def locB (sc : Scope) (x : Str) : Bool := match sc.names.lookup x with
  | some .local => true
  | some .cell => true
  | _ => false
theorem loc_of {sc : Scope} {x : Str} (h : locB sc x = true) : Loc sc x := by
  unfold locB at h
  split at h
  · next e => exact .inl e
  · next e => exact .inr e
  · cases h
def isLocB (sc : Scope) (x : Str) : Bool := match sc.names.lookup x with
  | some .local => true
  | _ => false
theorem isLoc_of {sc : Scope} {x : Str} (h : isLocB sc x = true) : sc.names.lookup x = some .local := by
  unfold isLocB at h
  split at h
  · next e => exact e
  · cases h
def noDunder (x : Str) : Bool := !(x == ("__debug__" : Str)) && !(x == ("__classdict__" : Str))
theorem nd1 {x : Str} (h : noDunder x = true) : (x == ("__debug__" : Str)) = false := by
  unfold noDunder at h
  rw [Bool.and_eq_true] at h
  simpa using h.1
theorem nd2 {x : Str} (h : noDunder x = true) : (x == ("__classdict__" : Str)) = false := by
  unfold noDunder at h
  rw [Bool.and_eq_true] at h
  simpa using h.2
section
variable {G : Wd} {ex : Ex} {Wx : L2.WX} {C : Ctx} {k : Nat} {X : Cx} {pos p p2 apos : Pos} {x : Str} {i : Nat} {a b c e o : Expr} {ia ib ic io ie : IE} {es : List Expr} {ies : IEs} {fd : FnD}
theorem q_var (hN : X.N[i]? = some x) (hv : visB X.env.scope x = true) (hd : noDunder x = true) : PE X (.Name x pos) (RE G none Wx C (.var i)) := e_var hN (vis_of hv) (nd1 hd) (nd2 hd)
theorem q_nm (S : Sd G Wx C k X) (hi : X.N[i]? = some x) (hx : locB X.env.scope x = true) (hf : (X.fn x || isLocB X.env.scope x) = true) : PG X (.Name x pos) (RdG G (IT.names (.nm i)) (setT C (.nm i))) :=
  g_nm S hi (loc_of hx) (by
    rcases Bool.or_eq_true_iff.mp hf with h | h
    · exact .inl h
    · exact .inr (isLoc_of h))
theorem q_set {E : XK} {pos' : Pos} (S : Sd G (wE E) C k X) (hi : X.N[i]? = some x) (hx : locB X.env.scope x = true) (hf : (X.fn x || isLocB X.env.scope x) = true) (he : PE X e (RE G none (wE E) C ie)) (hs : swapsWith e (some (.Name x pos')) pos.line X.env = pure false) :
    PS X (.Assign [.Name x pos'] e pos) (RS G E C (.asg (.nm i) ie)) :=
  s_set S hi (loc_of hx) he hs (by
    rcases Bool.or_eq_true_iff.mp hf with h | h
    · exact .inl h
    · exact .inr (isLoc_of h))
theorem q_callv (S : Sd G Wx C k X) (hN : X.N[i]? = some x) (hv : visB X.env.scope x = true) (hd : noDunder x = true) (ha : PA X (e :: es) (REs G none Wx C ies))
    (he : starEach (e :: es) X.env = (false, eval e X.env) :: starEach es X.env := by rfl) (hpl : (backTo pos (starEach es X.env)).any (·.1) = false := by rfl) : PE X (.Call (.Name x p) (e :: es) [] pos) (RE G none Wx C (.callv i ies)) :=
  e_callv S hN (vis_of hv) ha (nd1 hd) (nd2 hd) he hpl
theorem RelFw.len {L : Addr → Prop} {ρ : Rho} {H : Hp} : ∀ {fs : List (Nat × W)} {vs : List (Str × V)}, RelFw G L ρ H fs vs → fs.length = vs.length
  | _, _, .nil => rfl
  | _, _, .cons _ h => congrArg (· + 1) (RelFw.len h)
theorem RelFw.put {L : Addr → Prop} {ρ : Rho} {H : Hp} {f : Nat} {w : W} {v : V} (hI : ∀ f g, G.nm f = G.nm g → f = g) (r : RelW G none L ρ H w v) : ∀ {fs : List (Nat × W)} {vs : List (Str × V)}, RelFw G L ρ H fs vs → RelFw G L ρ H (putN f w fs) (putF (G.nm f) v vs)
  | _, _, .nil => .cons r .nil
  | _, _, .cons (f := g) h hs => by
    unfold putN putF
    by_cases q : g = f
    · subst q
      rw [if_pos rfl, if_pos rfl]
      exact .cons r hs
    · rw [if_neg q, if_neg fun z => q (hI _ _ z)]
      exact .cons h (RelFw.put hI r hs)
theorem q_fld {f : Nat} {n : Str} {ns : List Str} (S : Sd G Wx C k X) (hf : C.P.flds.contains f = true) (hnm : G.nm = nmOf ns) (hn : nmOf ns f = n) (ho : PE X o (RE G none Wx C io)) (hb : attributeBase o n X.env (eval o X.env) = eval o X.env := by rfl) : PE X (.Attribute o n pos) (RE G none Wx C (.fld io f)) :=
  e_fld S hf (by rw [hnm]; exact hn) ho hb
theorem s_fld {E : XK} {f : Nat} {n : Str} {ns : List Str} {pos' : Pos} (S : Sd G (wE E) C k X) (hf : C.P.flds.contains f = true) (hnm : G.nm = nmOf ns) (hn : nmOf ns f = n) (ho : PE X o (RE G none (wE E) C io)) (he : PE X e (RE G none (wE E) C ie)) (hs : swapsWith e (some (.Attribute o n pos')) pos.line X.env = pure false := by rfl) :
    PS X (.Assign [.Attribute o n pos'] e pos) (RS G E C (.asg (.fld io f) ie)) := by
  have hn : G.nm f = n := by rw [hnm]; exact hn
  subst hn
  exact (ps_fld ho he hs).of fun D σ H ⟨ρ, η, St, R, h⟩ => rdS1 (f := fun w S1 => (noExc (setT C (.fld io f) w η S1)).bind fun η1 S2 => .ok (.nx η1) S2) R h fun w v ρ1 S1 H1 R1 e1 r1 h1 => by
    replace h1 : Sat G E ρ1 S1 H1 ((noExc (((evalP C io).1 η S1).bind fun x S1 => (setFld C.P x f w S1).bind fun _ S2 => .ok η S2)).bind fun η1 S2 => .ok (Flow.nx η1) S2) (FlowOk G D) := h1
    rw [noExc_bind, Res.bind_assoc] at h1
    refine ⟨ρ1, η, S1, R1, Sat.nx (W1 := noX) (h1.bindN.mono fun wo ρ2 S2 H2 _ _ ⟨e2, R2, h2⟩ vo ro => ?_)⟩
    have RA2 := R1.mono e2 R2
    unfold setFld at h2
    cases ro with
    | loc hl =>
      dsimp only at h2
      split at h2
      · next c fs hc =>
        split at h2
        · next hq =>
          cases R2.cell _ _ _ hc hl with
          | ins hH hfs =>
            rename_i dx vs
            have al : alive (.ins c fs) = true := rfl
            have rw' := r1.mono e2.kp e2.pre
            have e3 := Ext.setCell (c' := .ins c (putN f w fs)) (o := .ins (G.ca c) dx (putF (G.nm f) v vs)) R2 hc al hl
            have R3 := R2.setCell (c' := .ins c (putN f w fs)) (o := .ins (G.ca c) dx (putF (G.nm f) v vs)) hc al hl (.ins (upd_same ..) (RelFw.put S.nmI (rw'.mono e3.kp e3.pre) (hfs.mono e3.kp e3.pre)))
            have hfm : f ∈ C.P.flds := by simpa using hf
            have hlen : vs.length < 1000 := by
              rw [← hfs.len]
              omega
            exact ⟨_, G.ca c, dx, vs, rfl, hH, (S.clf _ hq.2).cls, (S.clf _ hq.2).na f hfm, hlen, (fl (f := .nx η) (E := E) R3 (Sat.from e3 h2)) σ (RA2.mono e3 R3)⟩
        · exact h2.elim
      · exact h2.elim
    | _ => exact h2.elim
end
end RI
namespace Ir
open RI PySem
def f0 : FnD := { name := "__init__", N := ["self", "part"], np := 2, keep := false, top := false, body := (.cons (.asg (.fld (.var 0) 1) (.var 1)) .nil) }
def f1 : FnD := { name := "__init__", N := ["self", "line"], np := 2, keep := false, top := false, body := (.cons (.asg (.fld (.var 0) 2) (.var 1)) .nil) }
def f2 : FnD := { name := "is_integer", N := ["thing"], np := 1, keep := false, top := true, body := (.cons (.ret (.and (.cons (.isi (.var 0) [.int]) (.cons (.not (.isi (.var 0) [.bool])) .nil)))) .nil) }
def f3 : FnD := { name := "is_within", N := ["thing", "least", "most"], np := 3, keep := false, top := true, body := (.cons (.ret (.and (.cons (.call 2 (.cons (.var 0) .nil)) (.cons (.chain .le .le (.var 1) (.var 0) (.var 2)) .nil)))) .nil) }
def f4 : FnD := { name := "is_pair", N := ["thing"], np := 1, keep := false, top := true, body := (.cons (.ret (.and (.cons (.isi (.var 0) [.tuple]) (.cons (.cmp .eq (.bi .len (.cons (.var 0) .nil)) (.int 2)) .nil)))) .nil) }
def f5 : FnD := { name := "is_sized", N := ["thing", "least", "most"], np := 3, keep := false, top := true, body := (.cons (.ret (.and (.cons (.isi (.var 0) [.tuple]) (.cons (.chain .le .le (.var 1) (.bi .len (.cons (.var 0) .nil)) (.var 2)) .nil)))) .nil) }
def f6 : FnD := { name := "is_lot", N := ["thing", "size", "one", "other", "item"], np := 2, keep := false, top := true, body := (.cons (.ife (.or (.cons (.not (.isi (.var 0) [.tuple])) (.cons (.not (.bi .all (.cons (.lc (.call 3 (.cons (.var 4) (.cons (.int 0) (.cons (.bin .sub (.var 1) (.int 1)) .nil)))) [4] (.nm 4) (.seq (.var 0)) .no) .nil))) .nil))) (.cons (.ret (.bl false)) .nil) .nil) (.cons (.ret (.bi .all (.cons (.lc (.cmp .lt (.var 2) (.var 3)) [2, 3] (.tup (.cons (.nm 2) (.cons (.nm 3) .nil))) (.zip (.var 0) (.sl (.var 0) (.yes (.int 1)) .no)) .no) .nil))) .nil)) }
def f7 : FnD := { name := "divisor", N := ["one", "other"], np := 2, keep := false, top := true, body := (.cons (.par [0, 1] (.cons (.bi .abs (.cons (.var 0) .nil)) (.cons (.bi .abs (.cons (.var 1) .nil)) .nil))) (.cons (.whl (.cmp .ne (.var 1) (.int 0)) (.cons (.par [0, 1] (.cons (.var 1) (.cons (.bin .mod (.var 0) (.var 1)) .nil))) .nil)) (.cons (.ret (.var 0)) .nil))) }
def f8 : FnD := { name := "is_number", N := ["thing"], np := 1, keep := false, top := true, body := (.cons (.ife (.or (.cons (.not (.call 4 (.cons (.var 0) .nil))) (.cons (.not (.call 2 (.cons (.ix (.var 0) (.int 0)) .nil))) (.cons (.not (.call 2 (.cons (.ix (.var 0) (.int 1)) .nil))) .nil)))) (.cons (.ret (.bl false)) .nil) .nil) (.cons (.ret (.and (.cons (.cmp .gt (.ix (.var 0) (.int 1)) (.int 0)) (.cons (.cmp .eq (.call 7 (.cons (.ix (.var 0) (.int 0)) (.cons (.ix (.var 0) (.int 1)) .nil))) (.int 1)) .nil)))) .nil)) }
def f9 : FnD := { name := "is_row", N := ["thing", "size", "item"], np := 2, keep := false, top := true, body := (.cons (.ret (.and (.cons (.isi (.var 0) [.tuple]) (.cons (.cmp .eq (.bi .len (.cons (.var 0) .nil)) (.var 1)) (.cons (.bi .all (.cons (.lc (.call 8 (.cons (.var 2) .nil)) [2] (.nm 2) (.seq (.var 0)) .no) .nil)) .nil))))) .nil) }
def f10 : FnD := { name := "lowest", N := ["top", "bottom", "common"], np := 2, keep := false, top := true, body := (.cons (.asg (.nm 2) (.ifx (.cmp .gt (.var 1) (.int 0)) (.call 7 (.cons (.var 0) (.cons (.var 1) .nil))) (.neg (.call 7 (.cons (.var 0) (.cons (.var 1) .nil)))))) (.cons (.ret (.tup (.cons (.bin .fdiv (.var 0) (.var 2)) (.cons (.bin .fdiv (.var 1) (.var 2)) .nil)))) .nil)) }
def f11 : FnD := { name := "times", N := ["one", "other"], np := 2, keep := false, top := true, body := (.cons (.ret (.call 10 (.cons (.bin .mul (.ix (.var 0) (.int 0)) (.ix (.var 1) (.int 0))) (.cons (.bin .mul (.ix (.var 0) (.int 1)) (.ix (.var 1) (.int 1))) .nil)))) .nil) }
def f12 : FnD := { name := "__init__", N := ["self", "rows", "locked", "spare", "cell", "row"], np := 4, keep := false, top := false, body := (.cons (.ife (.not (.call 5 (.cons (.var 1) (.cons (.int 1) (.cons (.glob 1) .nil))))) (.cons (.raise 9999 .nil) .nil) .nil) (.cons (.for_ (.tup (.cons (.nm 4) (.cons (.nm 5) .nil))) (.enum (.var 1)) (.cons (.ife (.and (.cons (.isn true (.var 5)) (.cons (.not (.call 9 (.cons (.var 5) (.cons (.bi .len (.cons (.var 1) .nil)) .nil)))) .nil))) (.cons (.raise 9999 .nil) .nil) .nil) .nil)) (.cons (.ife (.not (.call 6 (.cons (.var 2) (.cons (.bi .len (.cons (.var 1) .nil)) .nil)))) (.cons (.raise 9999 .nil) .nil) .nil) (.cons (.ife (.not (.call 3 (.cons (.var 3) (.cons (.int 0) (.cons (.glob 2) .nil))))) (.cons (.raise 9999 .nil) .nil) .nil) (.cons (.asg (.fld (.var 0) 5) (.var 1)) (.cons (.asg (.fld (.var 0) 4) (.var 2)) (.cons (.asg (.fld (.var 0) 3) (.var 3)) .nil))))))) }
def f13 : FnD := { name := "__eq__", N := ["self", "other"], np := 2, keep := false, top := false, body := (.cons (.ife (.not (.isi (.var 1) [.cls 4])) (.cons (.ret (.bl false)) .nil) .nil) (.cons (.ret (.and (.cons (.cmp .eq (.fld (.var 0) 5) (.fld (.var 1) 5)) (.cons (.cmp .eq (.fld (.var 0) 4) (.fld (.var 1) 4)) (.cons (.cmp .eq (.fld (.var 0) 3) (.fld (.var 1) 3)) .nil))))) .nil)) }
def f14 : FnD := { name := "all_cells", N := ["wish"], np := 1, keep := false, top := true, body := (.cons (.ret (.bin .add (.bi .len (.cons (.fld (.var 0) 5) .nil)) (.fld (.var 0) 3))) .nil) }
def f15 : FnD := { name := "is_writing", N := ["wish", "thing"], np := 2, keep := false, top := true, body := (.cons (.ife (.or (.cons (.not (.call 4 (.cons (.var 1) .nil))) (.cons (.not (.call 3 (.cons (.ix (.var 1) (.int 0)) (.cons (.int 0) (.cons (.bin .sub (.call 14 (.cons (.var 0) .nil)) (.int 1)) .nil))))) .nil))) (.cons (.ret (.bl false)) .nil) .nil) (.cons (.ret (.call 9 (.cons (.ix (.var 1) (.int 1)) (.cons (.call 14 (.cons (.var 0) .nil)) .nil)))) .nil)) }
def f16 : FnD := { name := "is_program", N := ["wish", "thing", "item"], np := 2, keep := false, top := true, body := (.cons (.ret (.and (.cons (.call 5 (.cons (.var 1) (.cons (.int 0) (.cons (.glob 3) .nil)))) (.cons (.bi .all (.cons (.lc (.call 15 (.cons (.var 0) (.cons (.var 2) .nil))) [2] (.nm 2) (.seq (.var 1)) .no) .nil)) .nil)))) .nil) }
def f17 : FnD := { name := "check_program", N := ["wish", "program"], np := 2, keep := false, top := true, body := (.cons (.ife (.not (.call 16 (.cons (.var 0) (.cons (.var 1) .nil)))) (.cons (.raise 9999 .nil) .nil) .nil) .nil) }
def f18 : FnD := { name := "number_text", N := ["number", "top", "bottom"], np := 1, keep := false, top := true, body := (.cons (.asg (.tup (.cons (.nm 1) (.cons (.nm 2) .nil))) (.var 0)) (.cons (.ret (.ifx (.cmp .eq (.var 2) (.int 1)) (.bi .str (.cons (.var 1) .nil)) (.bin .add (.bin .add (.bi .str (.cons (.var 1) .nil)) (.str [47])) (.bi .str (.cons (.var 2) .nil))))) .nil)) }
def f19 : FnD := { name := "whole_read", N := ["word", "sign"], np := 1, keep := false, top := true, body := (.cons (.ife (.or (.cons (.not (.chain .le .le (.int 1) (.bi .len (.cons (.var 0) .nil)) (.glob 5))) (.cons (.not (.bi .all (.cons (.lc (.cmp .inn (.var 1) (.glob 4)) [1] (.nm 1) (.seq (.var 0)) .no) .nil))) .nil))) (.cons (.ret .non) .nil) .nil) (.cons (.ret (.ifx (.and (.cons (.cmp .gt (.bi .len (.cons (.var 0) .nil)) (.int 1)) (.cons (.cmp .eq (.ix (.var 0) (.int 0)) (.str [48])) .nil))) .non (.bi .int (.cons (.var 0) .nil)))) .nil)) }
def f20 : FnD := { name := "plain_read", N := ["word", "parts", "number", "part"], np := 1, keep := false, top := true, body := (.cons (.asg (.nm 1) (.lc (.call 19 (.cons (.var 3) .nil)) [3] (.nm 3) (.seq (.bm (.var 0) .split (.cons (.str [47]) .nil))) .no)) (.cons (.ife (.or (.cons (.cmp .inn .non (.var 1)) (.cons (.cmp .gt (.bi .len (.cons (.var 1) .nil)) (.int 2)) .nil))) (.cons (.ret .non) .nil) .nil) (.cons (.ife (.cmp .eq (.bi .len (.cons (.var 1) .nil)) (.int 1)) (.cons (.ret (.tup (.cons (.ix (.var 1) (.int 0)) (.cons (.int 1) .nil)))) .nil) .nil) (.cons (.asg (.nm 2) (.bi .tuple (.cons (.var 1) .nil))) (.cons (.ret (.ifx (.and (.cons (.cmp .gt (.ix (.var 1) (.int 1)) (.int 1)) (.cons (.cmp .eq (.call 10 (.cons (.ix (.var 1) (.int 0)) (.cons (.ix (.var 1) (.int 1)) .nil))) (.var 2)) .nil))) (.var 2) .non)) .nil))))) }
def f21 : FnD := { name := "number_read", N := ["word", "found"], np := 1, keep := false, top := true, body := (.cons (.ife (.cmp .ne (.sl (.var 0) .no (.yes (.int 1))) (.str [45])) (.cons (.ret (.call 20 (.cons (.var 0) .nil))) .nil) .nil) (.cons (.asg (.nm 1) (.call 20 (.cons (.sl (.var 0) (.yes (.int 1)) .no) .nil))) (.cons (.ret (.ifx (.or (.cons (.isn false (.var 1)) (.cons (.cmp .eq (.var 1) (.glob 0)) .nil))) .non (.call 11 (.cons (.glob 6) (.cons (.var 1) .nil))))) .nil))) }
def f22 : FnD := { name := "all_read", N := ["words", "reader", "found", "word"], np := 2, keep := false, top := true, body := (.cons (.asg (.nm 2) (.bi .tuple (.cons (.lc (.callv 1 (.cons (.var 3) .nil)) [3] (.nm 3) (.seq (.var 0)) .no) .nil))) (.cons (.ret (.ifx (.cmp .inn .non (.var 2)) .non (.var 2))) .nil)) }
def f23 : FnD := { name := "numbers_text", N := ["numbers", "number"], np := 1, keep := false, top := true, body := (.cons (.ret (.bm (.str []) .join (.cons (.lc (.bin .add (.str [32]) (.call 18 (.cons (.var 1) .nil))) [1] (.nm 1) (.seq (.var 0)) .no) .nil))) .nil) }
def f24 : FnD := { name := "wish_text", N := ["wish", "lines", "row", "line", "cell"], np := 1, keep := false, top := true, body := (.cons (.asg (.nm 1) (.thaw (.lst (.cons (.bin .add (.str [99, 101, 108, 108, 115, 32]) (.bi .str (.cons (.bi .len (.cons (.fld (.var 0) 5) .nil)) .nil))) (.cons (.bin .add (.str [115, 112, 97, 114, 101, 32]) (.bi .str (.cons (.fld (.var 0) 3) .nil))) .nil))))) (.cons (.expr (.bm (.var 1) .append (.cons (.bin .add (.str [108, 111, 99, 107, 101, 100]) (.bm (.str []) .join (.cons (.lc (.bin .add (.str [32]) (.bi .str (.cons (.var 4) .nil))) [4] (.nm 4) (.seq (.fld (.var 0) 4)) .no) .nil))) .nil))) (.cons (.for_ (.nm 2) (.seq (.fld (.var 0) 5)) (.cons (.expr (.bm (.var 1) .append (.cons (.ifx (.isn false (.var 2)) (.str [102, 114, 101, 101]) (.bin .add (.str [114, 111, 119]) (.call 23 (.cons (.var 2) .nil)))) .nil))) .nil)) (.cons (.ret (.bm (.str []) .join (.cons (.lc (.bin .add (.var 3) (.str [10])) [3] (.nm 3) (.seq (.var 1)) .no) .nil))) .nil)))) }
def f25 : FnD := { name := "program_text", N := ["program", "cell", "row"], np := 1, keep := false, top := true, body := (.cons (.ret (.bm (.str []) .join (.cons (.lc (.bin .add (.bin .add (.bin .add (.str [119, 114, 105, 116, 101, 32]) (.bi .str (.cons (.var 1) .nil))) (.call 23 (.cons (.var 2) .nil))) (.str [10])) [1, 2] (.tup (.cons (.nm 1) (.cons (.nm 2) .nil))) (.seq (.var 0)) .no) .nil))) .nil) }
def f26 : FnD := { name := "lines_of", N := ["text", "lines"], np := 1, keep := false, top := true, body := (.cons (.ife (.not (.isi (.var 0) [.str])) (.cons (.raise 9999 .nil) .nil) .nil) (.cons (.asg (.nm 1) (.bm (.var 0) .split (.cons (.str [10]) .nil))) (.cons (.ret (.tup (.cons (.sl (.var 1) .no (.yes (.neg (.int 1)))) (.cons (.ix (.var 1) (.neg (.int 1))) .nil)))) .nil))) }
def f27 : FnD := { name := "check_none", N := ["lines", "rest"], np := 2, keep := false, top := true, body := (.cons (.ife (.cmp .ne (.var 1) (.str [])) (.cons (.raise 9999 .nil) .nil) .nil) .nil) }
def f28 : FnD := { name := "check_read", N := ["thing", "line"], np := 2, keep := false, top := true, body := (.cons (.ife (.isn false (.var 0)) (.cons (.raise 9999 .nil) .nil) .nil) .nil) }
def f29 : FnD := { name := "word_read", N := ["line", "word", "words"], np := 2, keep := false, top := true, body := (.cons (.asg (.nm 2) (.bm (.var 0) .split (.cons (.str [32]) .nil))) (.cons (.ret (.ifx (.and (.cons (.cmp .eq (.bi .len (.cons (.var 2) .nil)) (.int 2)) (.cons (.cmp .eq (.ix (.var 2) (.int 0)) (.var 1)) .nil))) (.call 19 (.cons (.ix (.var 2) (.int 1)) .nil)) .non)) .nil)) }
def f30 : FnD := { name := "locked_read", N := ["line", "words"], np := 1, keep := false, top := true, body := (.cons (.asg (.nm 1) (.bm (.var 0) .split (.cons (.str [32]) .nil))) (.cons (.ret (.ifx (.cmp .eq (.ix (.var 1) (.int 0)) (.str [108, 111, 99, 107, 101, 100])) (.call 22 (.cons (.sl (.var 1) (.yes (.int 1)) .no) (.cons (.fnv 19) .nil))) .non)) .nil)) }
def f31 : FnD := { name := "item_read", N := ["line", "words", "found"], np := 1, keep := false, top := true, body := (.cons (.asg (.nm 1) (.bm (.var 0) .split (.cons (.str [32]) .nil))) (.cons (.ife (.cmp .eq (.var 1) (.lst (.cons (.str [102, 114, 101, 101]) .nil))) (.cons (.ret (.lst (.cons .non .nil))) .nil) .nil) (.cons (.asg (.nm 2) (.ifx (.cmp .eq (.ix (.var 1) (.int 0)) (.str [114, 111, 119])) (.call 22 (.cons (.sl (.var 1) (.yes (.int 1)) .no) (.cons (.fnv 21) .nil))) .non)) (.cons (.ret (.ifx (.isn false (.var 2)) .non (.lst (.cons (.var 2) .nil)))) .nil)))) }
def f32 : FnD := { name := "head_read", N := ["line", "number"], np := 2, keep := false, top := true, body := (.cons (.ife (.cmp .eq (.var 1) (.int 2)) (.cons (.ret (.call 30 (.cons (.var 0) .nil))) .nil) .nil) (.cons (.ret (.call 29 (.cons (.var 0) (.cons (.ifx (.cmp .eq (.var 1) (.int 0)) (.str [99, 101, 108, 108, 115]) (.str [115, 112, 97, 114, 101])) .nil)))) .nil)) }
def f33 : FnD := { name := "read_wish", N := ["text", "heads", "rows", "lines", "rest", "number", "line", "found"], np := 1, keep := false, top := true, body := (.cons (.asg (.tup (.cons (.nm 3) (.cons (.nm 4) .nil))) (.call 26 (.cons (.var 0) .nil))) (.cons (.asg (.nm 1) (.thaw (.lst .nil))) (.cons (.asg (.nm 2) (.thaw (.lst .nil))) (.cons (.for_ (.tup (.cons (.nm 5) (.cons (.nm 6) .nil))) (.enum (.var 3)) (.cons (.asg (.nm 7) .non) (.cons (.ife (.cmp .lt (.var 5) (.int 3)) (.cons (.asg (.nm 7) (.call 32 (.cons (.var 6) (.cons (.var 5) .nil)))) (.cons (.expr (.bm (.var 1) .append (.cons (.var 7) .nil))) .nil)) (.cons (.ife (.cmp .lt (.bi .len (.cons (.var 2) .nil)) (.ix (.var 1) (.int 0))) (.cons (.asg (.nm 7) (.call 31 (.cons (.var 6) .nil))) (.cons (.expr (.bm (.var 2) .extend (.cons (.ifx (.isn true (.var 7)) (.var 7) (.lst .nil)) .nil))) .nil)) .nil) .nil)) (.cons (.expr (.call 28 (.cons (.var 7) (.cons (.bin .add (.var 5) (.int 1)) .nil)))) .nil)))) (.cons (.expr (.call 27 (.cons (.var 3) (.cons (.var 4) .nil)))) (.cons (.ife (.or (.cons (.cmp .lt (.bi .len (.cons (.var 1) .nil)) (.int 3)) (.cons (.cmp .lt (.bi .len (.cons (.var 2) .nil)) (.ix (.var 1) (.int 0))) .nil))) (.cons (.raise 9999 .nil) .nil) .nil) (.cons (.ret (.mk 4 (.cons (.bi .tuple (.cons (.var 2) .nil)) (.cons (.ix (.var 1) (.int 2)) (.cons (.ix (.var 1) (.int 1)) .nil))))) .nil))))))) }
def f34 : FnD := { name := "writing_read", N := ["line", "words", "cell", "row"], np := 1, keep := false, top := true, body := (.cons (.asg (.nm 1) (.bm (.var 0) .split (.cons (.str [32]) .nil))) (.cons (.ife (.or (.cons (.cmp .ne (.ix (.var 1) (.int 0)) (.str [119, 114, 105, 116, 101])) (.cons (.cmp .lt (.bi .len (.cons (.var 1) .nil)) (.int 2)) .nil))) (.cons (.ret .non) .nil) .nil) (.cons (.par [2, 3] (.cons (.call 19 (.cons (.ix (.var 1) (.int 1)) .nil)) (.cons (.call 22 (.cons (.sl (.var 1) (.yes (.int 2)) .no) (.cons (.fnv 21) .nil))) .nil))) (.cons (.ret (.ifx (.or (.cons (.isn false (.var 2)) (.cons (.isn false (.var 3)) .nil))) .non (.tup (.cons (.var 2) (.cons (.var 3) .nil))))) .nil)))) }
def f35 : FnD := { name := "read_program", N := ["wish", "text", "found", "lines", "rest", "number", "line"], np := 2, keep := false, top := true, body := (.cons (.asg (.tup (.cons (.nm 3) (.cons (.nm 4) .nil))) (.call 26 (.cons (.var 1) .nil))) (.cons (.asg (.nm 2) (.thaw (.lst .nil))) (.cons (.for_ (.tup (.cons (.nm 5) (.cons (.nm 6) .nil))) (.enum (.var 3)) (.cons (.expr (.bm (.var 2) .append (.cons (.call 34 (.cons (.var 6) .nil)) .nil))) (.cons (.expr (.call 28 (.cons (.ix (.var 2) (.neg (.int 1))) (.cons (.bin .add (.var 5) (.int 1)) .nil)))) .nil))) (.cons (.expr (.call 27 (.cons (.var 3) (.cons (.var 4) .nil)))) (.cons (.expr (.call 17 (.cons (.var 0) (.cons (.bi .tuple (.cons (.var 2) .nil)) .nil)))) (.cons (.ret (.bi .tuple (.cons (.var 2) .nil))) .nil)))))) }
def f36 : FnD := { name := "_law_hand", N := ["script", "cells", "cell"], np := 1, keep := true, top := true, body := (.cons (.asg (.nm 1) (.lc (.bi .abs (.cons (.bi .int (.cons (.var 2) .nil)) .nil)) [2] (.nm 2) (.seq (.sl (.var 0) .no (.yes (.int 63)))) .no)) (.cons (.ret (.thaw (.lst (.cons (.var 1) (.cons (.int 0) (.cons (.int 0) (.cons (.bin .add (.int 1) (.bi .len (.cons (.var 1) .nil))) (.cons (.int 0) .nil)))))))) .nil)) }
def f37 : FnD := { name := "_law_draw", N := ["hand", "many", "number", "cell", "digit"], np := 2, keep := false, top := true, body := (.cons (.ife (.and (.cons (.cmp .eq (.ix (.var 0) (.int 2)) (.int 0)) (.cons (.cmp .lt (.ix (.var 0) (.int 1)) (.bi .len (.cons (.ix (.var 0) (.int 0)) .nil))) .nil))) (.cons (.asg (.nm 3) (.ix (.ix (.var 0) (.int 0)) (.ix (.var 0) (.int 1)))) (.cons (.asg (.sub (.var 0) (.int 1)) (.bin .add (.ix (.var 0) (.int 1)) (.int 1))) (.cons (.asg (.sub (.var 0) (.int 3)) (.bin .mod (.bi .int (.cons (.bin .add (.bin .add (.bin .mul (.ix (.var 0) (.int 3)) (.int 69621)) (.var 3)) (.int 11)) .nil)) (.int 2147483629))) (.cons (.ife (.cmp .ge (.var 3) (.bin .pow (.int 10) (.int 18))) (.cons (.asg (.sub (.var 0) (.int 2)) (.var 3)) .nil) .nil) .nil)))) .nil) (.cons (.ife (.cmp .gt (.ix (.var 0) (.int 2)) (.int 0)) (.cons (.asg (.nm 4) (.bin .mod (.bi .int (.cons (.ix (.var 0) (.int 2)) .nil)) (.var 1))) (.cons (.asg (.sub (.var 0) (.int 2)) (.bin .fdiv (.ix (.var 0) (.int 2)) (.var 1))) (.cons (.ret (.var 4)) .nil))) .nil) (.cons (.asg (.sub (.var 0) (.int 4)) (.bin .add (.ix (.var 0) (.int 4)) (.int 1))) (.cons (.asg (.nm 2) (.bin .mod (.bi .int (.cons (.bin .mul (.bi .int (.cons (.bin .add (.ix (.var 0) (.int 3)) (.bin .mul (.int 7919) (.ix (.var 0) (.int 4)))) .nil)) (.int 48271)) .nil)) (.int 2147483647))) (.cons (.asg (.nm 2) (.bin .mod (.bi .int (.cons (.bin .mul (.var 2) (.bin .add (.bin .fdiv (.var 2) (.int 1009)) (.int 69621))) .nil)) (.int 2147483647))) (.cons (.asg (.nm 2) (.bin .mod (.bi .int (.cons (.bin .mul (.var 2) (.bin .add (.bin .fdiv (.var 2) (.int 2003)) (.int 40692))) .nil)) (.int 2147483399))) (.cons (.ret (.bin .mod (.bi .int (.cons (.bin .fdiv (.var 2) (.int 16)) .nil)) (.var 1))) .nil))))))) }
def f38 : FnD := { name := "_law_is", N := ["told", "due", "one", "two"], np := 2, keep := false, top := true, body := (.cons (.ife (.isi (.var 1) [.tuple, .list]) (.cons (.ife (.or (.cons (.cmp .ne (.isi (.var 0) [.tuple]) (.isi (.var 1) [.tuple])) (.cons (.not (.isi (.var 0) [.tuple, .list])) .nil))) (.cons (.ret (.bl false)) .nil) .nil) (.cons (.ret (.and (.cons (.cmp .eq (.bi .len (.cons (.var 0) .nil)) (.bi .len (.cons (.var 1) .nil))) (.cons (.bi .all (.cons (.lc (.call 38 (.cons (.var 2) (.cons (.var 3) .nil))) [2, 3] (.tup (.cons (.nm 2) (.cons (.nm 3) .nil))) (.zip (.var 0) (.var 1)) .no) .nil)) .nil)))) .nil)) .nil) (.cons (.ife (.isn false (.var 1)) (.cons (.ret (.isn false (.var 0))) .nil) .nil) (.cons (.ret (.and (.cons (.cmp .eq (.isi (.var 0) [.bool]) (.isi (.var 1) [.bool])) (.cons (.isn true (.var 0)) (.cons (.cmp .eq (.var 0) (.var 1)) .nil))))) .nil))) }
def f39 : FnD := { name := "_law_gcd", N := ["one", "other"], np := 2, keep := false, top := true, body := (.cons (.whl (.cmp .gt (.var 1) (.int 0)) (.cons (.par [0, 1] (.cons (.var 1) (.cons (.bin .mod (.bi .int (.cons (.var 0) .nil)) (.var 1)) .nil))) .nil)) (.cons (.ret (.var 0)) .nil)) }
def f40 : FnD := { name := "_law_low", N := ["top", "bottom", "common"], np := 2, keep := false, top := true, body := (.cons (.asg (.nm 2) (.call 39 (.cons (.bi .abs (.cons (.var 0) .nil)) (.cons (.var 1) .nil)))) (.cons (.ret (.tup (.cons (.bin .fdiv (.var 0) (.var 2)) (.cons (.bin .fdiv (.var 1) (.var 2)) .nil)))) .nil)) }
def f41 : FnD := { name := "_law_number", N := ["hand", "great", "kind"], np := 2, keep := false, top := true, body := (.cons (.asg (.nm 2) (.call 37 (.cons (.var 0) (.cons (.int 9) .nil)))) (.cons (.ife (.cmp .eq (.var 2) (.int 0)) (.cons (.ret (.call 40 (.cons (.bin .sub (.call 37 (.cons (.var 0) (.cons (.int 19) .nil))) (.int 9)) (.cons (.bin .add (.int 1) (.call 37 (.cons (.var 0) (.cons (.int 9) .nil)))) .nil)))) .nil) .nil) (.cons (.ife (.and (.cons (.cmp .eq (.var 2) (.int 1)) (.cons (.var 1) .nil))) (.cons (.ret (.call 40 (.cons (.bin .add (.bin .sub (.call 37 (.cons (.var 0) (.cons (.bin .sub (.bin .mul (.int 2) (.bin .pow (.int 10) (.int 9))) (.int 1)) .nil))) (.bin .pow (.int 10) (.int 9))) (.int 1)) (.cons (.bin .add (.int 1) (.call 37 (.cons (.var 0) (.cons (.bin .sub (.bin .pow (.int 10) (.int 9)) (.int 1)) .nil)))) .nil)))) .nil) .nil) (.cons (.ret (.ix (.lst (.cons (.tup (.cons (.int 0) (.cons (.int 1) .nil))) (.cons (.tup (.cons (.int 0) (.cons (.int 1) .nil))) (.cons (.tup (.cons (.int 0) (.cons (.int 1) .nil))) (.cons (.tup (.cons (.int 1) (.cons (.int 1) .nil))) (.cons (.tup (.cons (.int 1) (.cons (.int 1) .nil))) (.cons (.tup (.cons (.neg (.int 1)) (.cons (.int 1) .nil))) (.cons (.tup (.cons (.int 2) (.cons (.int 1) .nil))) (.cons (.tup (.cons (.neg (.int 3)) (.cons (.int 1) .nil))) .nil))))))))) (.call 37 (.cons (.var 0) (.cons (.int 8) .nil))))) .nil)))) }
def f42 : FnD := { name := "_law_unit", N := ["many", "at", "place"], np := 2, keep := false, top := true, body := (.cons (.ret (.bi .tuple (.cons (.lc (.tup (.cons (.bi .int (.cons (.cmp .eq (.var 2) (.var 1)) .nil)) (.cons (.int 1) .nil))) [2] (.nm 2) (.rng (.var 0)) .no) .nil))) .nil) }
def f43 : FnD := { name := "_law_wish", N := ["hand", "most", "great", "many", "rows", "cell", "locked", "kind", "row", "place"], np := 3, keep := false, top := true, body := (.cons (.asg (.nm 3) (.bin .add (.int 1) (.call 37 (.cons (.var 0) (.cons (.var 1) .nil))))) (.cons (.asg (.nm 4) (.thaw (.lst .nil))) (.cons (.for_ (.nm 5) (.rng (.var 3)) (.cons (.asg (.nm 7) (.call 37 (.cons (.var 0) (.cons (.int 6) .nil)))) (.cons (.asg (.nm 8) (.bi .tuple (.cons (.lc (.call 41 (.cons (.var 0) (.cons (.var 2) .nil))) [9] (.nm 9) (.rng (.var 3)) .no) .nil))) (.cons (.ife (.cmp .lt (.var 7) (.int 3)) (.cons (.asg (.nm 8) (.ix (.lst (.cons .non (.cons (.call 42 (.cons (.var 3) (.cons (.var 5) .nil))) (.cons (.call 42 (.cons (.var 3) (.cons (.call 37 (.cons (.var 0) (.cons (.var 3) .nil))) .nil))) .nil)))) (.var 7))) .nil) .nil) (.cons (.expr (.bm (.var 4) .append (.cons (.var 8) .nil))) .nil))))) (.cons (.asg (.nm 6) (.bi .tuple (.cons (.lc (.var 5) [5] (.nm 5) (.rng (.var 3)) (.yes (.cmp .eq (.call 37 (.cons (.var 0) (.cons (.int 8) .nil))) (.int 0)))) .nil))) (.cons (.ret (.tup (.cons (.bi .tuple (.cons (.var 4) .nil)) (.cons (.var 6) (.cons (.call 37 (.cons (.var 0) (.cons (.int 3) .nil))) .nil))))) .nil))))) }
def f44 : FnD := { name := "_law_figures", N := ["number"], np := 1, keep := false, top := true, body := (.cons (.ret (.bin .add (.bi .str (.cons (.ix (.var 0) (.int 0)) .nil)) (.ifx (.cmp .eq (.ix (.var 0) (.int 1)) (.int 1)) (.str []) (.bin .add (.str [47]) (.bi .str (.cons (.ix (.var 0) (.int 1)) .nil)))))) .nil) }
def f45 : FnD := { name := "_law_lines", N := ["rows", "row", "word"], np := 1, keep := false, top := true, body := (.cons (.ret (.bm (.str []) .join (.cons (.lc (.bin .add (.bm (.str [32]) .join (.cons (.lc (.bi .str (.cons (.var 2) .nil)) [2] (.nm 2) (.seq (.var 1)) .no) .nil)) (.str [10])) [1] (.nm 1) (.seq (.var 0)) .no) .nil))) .nil) }
def f46 : FnD := { name := "_law_wish_text", N := ["rows", "locked", "spare", "found", "row", "number"], np := 3, keep := false, top := true, body := (.cons (.asg (.nm 3) (.thaw (.lst (.cons (.lst (.cons (.str [99, 101, 108, 108, 115]) (.cons (.bi .len (.cons (.var 0) .nil)) .nil))) (.cons (.lst (.cons (.str [115, 112, 97, 114, 101]) (.cons (.var 2) .nil))) (.cons (.bin .add (.lst (.cons (.str [108, 111, 99, 107, 101, 100]) .nil)) (.bi .list (.cons (.var 1) .nil))) .nil)))))) (.cons (.for_ (.nm 4) (.seq (.var 0)) (.cons (.expr (.bm (.var 3) .append (.cons (.ifx (.isn false (.var 4)) (.lst (.cons (.str [102, 114, 101, 101]) .nil)) (.bin .add (.lst (.cons (.str [114, 111, 119]) .nil)) (.lc (.call 44 (.cons (.var 5) .nil)) [5] (.nm 5) (.seq (.var 4)) .no))) .nil))) .nil)) (.cons (.ret (.call 45 (.cons (.var 3) .nil))) .nil))) }
def f47 : FnD := { name := "_law_program_text", N := ["program", "cell", "row", "number"], np := 1, keep := false, top := true, body := (.cons (.ret (.call 45 (.cons (.lc (.bin .add (.lst (.cons (.str [119, 114, 105, 116, 101]) (.cons (.var 1) .nil))) (.lc (.call 44 (.cons (.var 3) .nil)) [3] (.nm 3) (.seq (.var 2)) .no)) [1, 2] (.tup (.cons (.nm 1) (.cons (.nm 2) .nil))) (.seq (.var 0)) .no) .nil))) .nil) }
def f48 : FnD := { name := "_law_program", N := ["hand", "cells", "most", "found", "turn", "cell", "place"], np := 3, keep := false, top := true, body := (.cons (.asg (.nm 3) (.thaw (.lst .nil))) (.cons (.for_ (.nm 4) (.rng (.call 37 (.cons (.var 0) (.cons (.bin .add (.var 2) (.int 1)) .nil)))) (.cons (.asg (.nm 5) (.call 37 (.cons (.var 0) (.cons (.var 1) .nil)))) (.cons (.expr (.bm (.var 3) .append (.cons (.tup (.cons (.var 5) (.cons (.bi .tuple (.cons (.lc (.call 41 (.cons (.var 0) (.cons (.bl true) .nil))) [6] (.nm 6) (.rng (.var 1)) .no) .nil)) .nil))) .nil))) .nil))) (.cons (.ret (.bi .tuple (.cons (.var 3) .nil))) .nil))) }
def f49 : FnD := { name := "law", N := ["script", "hand", "turn", "told", "program", "due", "rows", "locked", "spare", "wish"], np := 1, keep := false, top := true, body := (.cons (.asg (.nm 1) (.call 36 (.cons (.var 0) .nil))) (.cons (.for_ (.nm 2) (.rng (.int 4)) (.cons (.asg (.tup (.cons (.nm 6) (.cons (.nm 7) (.cons (.nm 8) .nil)))) (.call 43 (.cons (.var 1) (.cons (.int 6) (.cons (.bl true) .nil))))) (.cons (.par [9, 5] (.cons (.mk 4 (.cons (.var 6) (.cons (.var 7) (.cons (.var 8) .nil)))) (.cons (.call 46 (.cons (.var 6) (.cons (.var 7) (.cons (.var 8) .nil)))) .nil))) (.cons (.ife (.not (.call 38 (.cons (.call 24 (.cons (.var 9) .nil)) (.cons (.var 5) .nil)))) (.cons (.ret (.bl false)) .nil) .nil) (.cons (.asg (.nm 3) (.call 33 (.cons (.var 5) .nil))) (.cons (.ife (.or (.cons (.not (.isi (.var 3) [.cls 4])) (.cons (.cmp .ne (.var 3) (.var 9)) (.cons (.cmp .ne (.call 24 (.cons (.var 3) .nil)) (.var 5)) .nil)))) (.cons (.ret (.bl false)) .nil) .nil) (.cons (.ife (.not (.call 38 (.cons (.lst (.cons (.fld (.var 3) 5) (.cons (.fld (.var 3) 4) (.cons (.fld (.var 3) 3) .nil)))) (.cons (.lst (.cons (.var 6) (.cons (.var 7) (.cons (.var 8) .nil)))) .nil)))) (.cons (.ret (.bl false)) .nil) .nil) (.cons (.asg (.nm 4) (.call 48 (.cons (.var 1) (.cons (.bin .add (.bi .len (.cons (.var 6) .nil)) (.var 8)) (.cons (.int 10) .nil))))) (.cons (.ife (.and (.cons (.cmp .gt (.bi .len (.cons (.var 4) .nil)) (.int 0)) (.cons (.cmp .eq (.call 37 (.cons (.var 1) (.cons (.int 12) .nil))) (.int 0)) .nil))) (.cons (.asg (.nm 4) (.sl (.bin .mul (.var 4) (.int 60)) .no (.yes (.int 60)))) .nil) .nil) (.cons (.asg (.nm 5) (.call 47 (.cons (.var 4) .nil))) (.cons (.ife (.or (.cons (.not (.call 38 (.cons (.call 25 (.cons (.var 4) .nil)) (.cons (.var 5) .nil)))) (.cons (.not (.call 38 (.cons (.call 35 (.cons (.var 9) (.cons (.var 5) .nil))) (.cons (.var 4) .nil)))) .nil))) (.cons (.ret (.bl false)) .nil) .nil) (.cons (.ife (.or (.cons (.cmp .ne (.fld (.var 9) 5) (.var 6)) (.cons (.cmp .ne (.call 25 (.cons (.call 35 (.cons (.var 9) (.cons (.var 5) .nil))) .nil)) (.var 5)) .nil))) (.cons (.ret (.bl false)) .nil) .nil) .nil)))))))))))) (.cons (.ret (.and (.cons (.cmp .eq (.call 25 (.cons (.tup .nil) .nil)) (.str [])) (.cons (.cmp .eq (.call 35 (.cons (.mk 4 (.cons (.tup (.cons .non .nil)) (.cons (.tup .nil) (.cons (.int 0) .nil)))) (.cons (.str []) .nil))) (.tup .nil)) .nil)))) .nil))) }
def P : Prog := { fns := [f0, f1, f2, f3, f4, f5, f6, f7, f8, f9, f10, f11, f12, f13, f14, f15, f16, f17, f18, f19, f20, f21, f22, f23, f24, f25, f26, f27, f28, f29, f30, f31, f32, f33, f34, f35, f36, f37, f38, f39, f40, f41, f42, f43, f44, f45, f46, f47, f48, f49], cls := [{ name := "CellError", init := none, meths := [], frozen := false, sups := [0], exc := some [] }, { name := "BadWish", init := none, meths := [], frozen := false, sups := [1, 0], exc := some [1] }, { name := "NoProgram", init := none, meths := [], frozen := false, sups := [2, 0], exc := some [] }, { name := "BadText", init := none, meths := [], frozen := false, sups := [3, 0], exc := some [2] }, { name := "Wish", init := some 12, meths := [(0, 13)], frozen := true, sups := [4], exc := none }], consts := [(.tup [.int 0, .int 1]), (.int 6), (.int 2), (.int 60), (.str [48, 49, 50, 51, 52, 53, 54, 55, 56, 57]), (.int 9), (.tup [.int (-1), .int 1])], cnm := ["NOUGHT", "MOST_CELLS", "MOST_SPARE", "MOST_WRITINGS", "FIGURES", "MOST_FIGURES", "CONTRARY"], flds := [1, 2, 3, 4, 5] }
def names : List Str := ["__eq__", "part", "line", "spare", "locked", "rows"]
def lawId : Nat := 49
end Ir
/-! PU: running the evaluator by simp. -/
namespace RI
section
variable {C : Ctx} {η : Env} {S : Store}
theorem mkV1 (f : Env → Store → Res W) : (mkV f).1 η S = f η S := rfl
theorem mkV2 (f : Env → Store → Res W) : (mkV f).2 η S = (f η S).bind fun x S1 => ofO (truthy x S1) S1 := rfl
@[simp] theorem ev_var {i} : (evalP C (.var i)).1 η S = ofO (getV η i) S := rfl
@[simp] theorem ev_var_t {i} : (evalP C (.var i)).2 η S = ((evalP C (.var i)).1 η S).bind fun x S1 => ofO (truthy x S1) S1 := rfl
@[simp] theorem ev_glob {k} : (evalP C (.glob k)).1 η S = (ofO C.P.consts[k]? S).bind fun x S => .ok (.d x) S := rfl
@[simp] theorem ev_glob_t {k} : (evalP C (.glob k)).2 η S = ((evalP C (.glob k)).1 η S).bind fun x S1 => ofO (truthy x S1) S1 := rfl
@[simp] theorem ev_fnv {f} : (evalP C (.fnv f)).1 η S = .ok (.d (.fn f)) S := rfl
@[simp] theorem ev_fnv_t {f} : (evalP C (.fnv f)).2 η S = ((evalP C (.fnv f)).1 η S).bind fun x S1 => ofO (truthy x S1) S1 := rfl
@[simp] theorem ev_non  : (evalP C .non).1 η S = .ok (.d .non) S := rfl
@[simp] theorem ev_non_t  : (evalP C .non).2 η S = ((evalP C .non).1 η S).bind fun x S1 => ofO (truthy x S1) S1 := rfl
@[simp] theorem ev_bl {b} : (evalP C (.bl b)).1 η S = .ok (.d (.bl b)) S := rfl
@[simp] theorem ev_bl_t {b} : (evalP C (.bl b)).2 η S = ((evalP C (.bl b)).1 η S).bind fun x S1 => ofO (truthy x S1) S1 := rfl
@[simp] theorem ev_int {b} : (evalP C (.int b)).1 η S = .ok (.d (.int b)) S := rfl
@[simp] theorem ev_int_t {b} : (evalP C (.int b)).2 η S = ((evalP C (.int b)).1 η S).bind fun x S1 => ofO (truthy x S1) S1 := rfl
@[simp] theorem ev_str {b} : (evalP C (.str b)).1 η S = .ok (.d (.str b)) S := rfl
@[simp] theorem ev_str_t {b} : (evalP C (.str b)).2 η S = ((evalP C (.str b)).1 η S).bind fun x S1 => ofO (truthy x S1) S1 := rfl
@[simp] theorem ev_tup {es} : (evalP C (.tup es)).1 η S = (evalEs C es η S).bind fun ws S1 => (toDs ws S1).bind fun xs S2 => .ok (.d (.tup xs)) S2 := rfl
@[simp] theorem ev_tup_t {es} : (evalP C (.tup es)).2 η S = ((evalP C (.tup es)).1 η S).bind fun x S1 => ofO (truthy x S1) S1 := rfl
@[simp] theorem ev_lst {es} : (evalP C (.lst es)).1 η S = (evalEs C es η S).bind fun ws S1 => (toDs ws S1).bind fun xs S2 => .ok (.d (.lst xs)) S2 := rfl
@[simp] theorem ev_lst_t {es} : (evalP C (.lst es)).2 η S = ((evalP C (.lst es)).1 η S).bind fun x S1 => ofO (truthy x S1) S1 := rfl
@[simp] theorem ev_bin {o a b} : (evalP C (.bin o a b)).1 η S = ((evalP C a).1 η S).bind fun x S1 => ((evalP C b).1 η S1).bind fun y S2 => (ofO (binD o x y S2) S2).bind fun z S3 => .ok (.d z) S3 := rfl
@[simp] theorem ev_bin_t {o a b} : (evalP C (.bin o a b)).2 η S = ((evalP C (.bin o a b)).1 η S).bind fun x S1 => ofO (truthy x S1) S1 := rfl
@[simp] theorem ev_neg {a} : (evalP C (.neg a)).1 η S = ((evalP C a).1 η S).bind fun x S1 => match x with
    | .d (.int i) => .ok (.d (.int (-i))) S1
    | _ => .stk := rfl
@[simp] theorem ev_neg_t {a} : (evalP C (.neg a)).2 η S = ((evalP C (.neg a)).1 η S).bind fun x S1 => ofO (truthy x S1) S1 := rfl
@[simp] theorem ev_not1 {a} : (evalP C (.not a)).1 η S = ((evalP C a).1 η S).bind fun x S1 => (ofO (truthy x S1) S1).bind fun b S2 => .ok (.d (.bl (!b))) S2 := rfl
@[simp] theorem ev_not2 {a} : (evalP C (.not a)).2 η S = ((evalP C a).2 η S).bind fun b S1 => .ok (!b) S1 := rfl
@[simp] theorem ev_cmp {o a b} : (evalP C (.cmp o a b)).1 η S = ((evalP C a).1 η S).bind fun x S1 => ((evalP C b).1 η S1).bind fun y S2 => cmpW C o x y S2 := rfl
@[simp] theorem ev_cmp_t {o a b} : (evalP C (.cmp o a b)).2 η S = ((evalP C (.cmp o a b)).1 η S).bind fun x S1 => ofO (truthy x S1) S1 := rfl
@[simp] theorem ev_chain {o o' a b c} : (evalP C (.chain o o' a b c)).1 η S = ((evalP C a).1 η S).bind fun x S1 => ((evalP C b).1 η S1).bind fun y S2 => (ofO (cmpD o x y S2) S2).bind fun k S3 =>
      if k = true then ((evalP C c).1 η S3).bind fun z S4 => (ofO (cmpD o' y z S4) S4).bind fun k' S5 => .ok (.d (.bl k')) S5 else .ok (.d (.bl false)) S3 := rfl
@[simp] theorem ev_chain_t {o o' a b c} : (evalP C (.chain o o' a b c)).2 η S = ((evalP C (.chain o o' a b c)).1 η S).bind fun x S1 => ofO (truthy x S1) S1 := rfl
@[simp] theorem ev_isn {n a} : (evalP C (.isn n a)).1 η S = ((evalP C a).1 η S).bind fun x S1 => match x with
    | .d .non => .ok (.d (.bl (!n))) S1
    | _ => .ok (.d (.bl n)) S1 := rfl
@[simp] theorem ev_isn_t {n a} : (evalP C (.isn n a)).2 η S = ((evalP C (.isn n a)).1 η S).bind fun x S1 => ofO (truthy x S1) S1 := rfl
@[simp] theorem ev_and {es} : evalP C (.and es) = evalAnd C es := rfl
@[simp] theorem ev_or {es} : evalP C (.or es) = evalOr C es := rfl
@[simp] theorem and_one {e} : evalAnd C (.cons e .nil) = evalP C e := rfl
@[simp] theorem or_one {e} : evalOr C (.cons e .nil) = evalP C e := rfl
@[simp] theorem and1 {e e2 r} : (evalAnd C (.cons e (.cons e2 r))).1 η S = ((evalP C e).1 η S).bind fun x S1 => (ofO (truthy x S1) S1).bind fun k S2 => if k = true then (evalAnd C (.cons e2 r)).1 η S2 else .ok x S2 := rfl
@[simp] theorem and2 {e e2 r} : (evalAnd C (.cons e (.cons e2 r))).2 η S = ((evalP C e).2 η S).bind fun k S1 => if k = true then (evalAnd C (.cons e2 r)).2 η S1 else .ok false S1 := rfl
@[simp] theorem or1 {e e2 r} : (evalOr C (.cons e (.cons e2 r))).1 η S = ((evalP C e).1 η S).bind fun x S1 => (ofO (truthy x S1) S1).bind fun k S2 => if k = true then .ok x S2 else (evalOr C (.cons e2 r)).1 η S2 := rfl
@[simp] theorem or2 {e e2 r} : (evalOr C (.cons e (.cons e2 r))).2 η S = ((evalP C e).2 η S).bind fun k S1 => if k = true then .ok true S1 else (evalOr C (.cons e2 r)).2 η S1 := rfl
@[simp] theorem ev_ifx {c a b} : (evalP C (.ifx c a b)).1 η S = ((evalP C c).2 η S).bind fun k S1 => if k = true then (evalP C a).1 η S1 else (evalP C b).1 η S1 := rfl
@[simp] theorem ev_ifx_t {c a b} : (evalP C (.ifx c a b)).2 η S = ((evalP C (.ifx c a b)).1 η S).bind fun x S1 => ofO (truthy x S1) S1 := rfl
@[simp] theorem ev_call {f es} : (evalP C (.call f es)).1 η S = (evalEs C es η S).bind fun ws S1 => C.call f ws S1 := rfl
@[simp] theorem ev_call_t {f es} : (evalP C (.call f es)).2 η S = ((evalP C (.call f es)).1 η S).bind fun x S1 => ofO (truthy x S1) S1 := rfl
@[simp] theorem ev_callv {i es} : (evalP C (.callv i es)).1 η S = (ofO (getV η i) S).bind fun w S => match w with
    | .d (.fn f) => match C.P.fns[f]? with
      | some fd => (evalEs C es η S).bind fun ws S1 => if ws.length = fd.np then C.call f ws S1 else .stk
      | none => .stk
    | _ => .stk := rfl
@[simp] theorem ev_callv_t {i es} : (evalP C (.callv i es)).2 η S = ((evalP C (.callv i es)).1 η S).bind fun x S1 => ofO (truthy x S1) S1 := rfl
@[simp] theorem ev_mk {c es} : (evalP C (.mk c es)).1 η S = (evalEs C es η S).bind fun ws S1 => mkW C c ws S1 := rfl
@[simp] theorem ev_mk_t {c es} : (evalP C (.mk c es)).2 η S = ((evalP C (.mk c es)).1 η S).bind fun x S1 => ofO (truthy x S1) S1 := rfl
@[simp] theorem ev_bi {b es} : (evalP C (.bi b es)).1 η S = (evalEs C es η S).bind fun ws S1 => (ofO (biD b ws S1) S1).bind fun x S2 => .ok (.d x) S2 := rfl
@[simp] theorem ev_bi_t {b es} : (evalP C (.bi b es)).2 η S = ((evalP C (.bi b es)).1 η S).bind fun x S1 => ofO (truthy x S1) S1 := rfl
@[simp] theorem ev_bm {e m es} : (evalP C (.bm e m es)).1 η S = ((evalP C e).1 η S).bind fun o S1 => if recvOk m o S1 = true then (evalEs C es η S1).bind fun ws S2 => bmD m o ws S2 else .stk := rfl
@[simp] theorem ev_bm_t {e m es} : (evalP C (.bm e m es)).2 η S = ((evalP C (.bm e m es)).1 η S).bind fun x S1 => ofO (truthy x S1) S1 := rfl
@[simp] theorem ev_fld {e f} : (evalP C (.fld e f)).1 η S = ((evalP C e).1 η S).bind fun o S1 => ofO (fldD C.P o f S1) S1 := rfl
@[simp] theorem ev_fld_t {e f} : (evalP C (.fld e f)).2 η S = ((evalP C (.fld e f)).1 η S).bind fun x S1 => ofO (truthy x S1) S1 := rfl
@[simp] theorem ev_ix {a b} : (evalP C (.ix a b)).1 η S = ((evalP C a).1 η S).bind fun x S1 => ((evalP C b).1 η S1).bind fun y S2 => ofO (ixD x y S2) S2 := rfl
@[simp] theorem ev_ix_t {a b} : (evalP C (.ix a b)).2 η S = ((evalP C (.ix a b)).1 η S).bind fun x S1 => ofO (truthy x S1) S1 := rfl
@[simp] theorem ev_sl {a lo hi} : (evalP C (.sl a lo hi)).1 η S = ((evalP C a).1 η S).bind fun x S1 => (evalO C lo η S1).bind fun l S2 => (evalO C hi η S2).bind fun h S3 => (ofO (slD x l h S3) S3).bind fun z S4 => .ok (.d z) S4 := rfl
@[simp] theorem ev_sl_t {a lo hi} : (evalP C (.sl a lo hi)).2 η S = ((evalP C (.sl a lo hi)).1 η S).bind fun x S1 => ofO (truthy x S1) S1 := rfl
@[simp] theorem ev_lc {e own t it ifs} : (evalP C (.lc e own t it ifs)).1 η S = noExc ((evalI C it η S).bind fun src S1 => (lcSrc (setT C t) (evalC C ifs) (evalP C e).1 (wipeE η own) src S1).bind fun xs S2 => .ok (.d (.lst xs)) S2) := rfl
@[simp] theorem ev_lc_t {e own t it ifs} : (evalP C (.lc e own t it ifs)).2 η S = ((evalP C (.lc e own t it ifs)).1 η S).bind fun x S1 => ofO (truthy x S1) S1 := rfl
@[simp] theorem ev_isi {e ts} : (evalP C (.isi e ts)).1 η S = ((evalP C e).1 η S).bind fun x S1 => (ofO (tyName x S1) S1).bind fun t S2 => if tyOk0 C.P t = true then .ok (.d (.bl (ts.any fun u => tyIs C.P t u))) S2 else .stk := rfl
@[simp] theorem ev_isi_t {e ts} : (evalP C (.isi e ts)).2 η S = ((evalP C (.isi e ts)).1 η S).bind fun x S1 => ofO (truthy x S1) S1 := rfl
@[simp] theorem ev_thaw {e} : (evalP C (.thaw e)).1 η S = ((evalP C e).1 η S).bind fun w S1 => thawD w S1 := rfl
@[simp] theorem ev_thaw_t {e} : (evalP C (.thaw e)).2 η S = ((evalP C (.thaw e)).1 η S).bind fun x S1 => ofO (truthy x S1) S1 := rfl
@[simp] theorem es_nil' : evalEs C .nil η S = .ok [] S := rfl
@[simp] theorem es_cons' {e es} : evalEs C (.cons e es) η S = ((evalP C e).1 η S).bind fun w S1 => (evalEs C es η S1).bind fun ws S2 => .ok (w :: ws) S2 := rfl
@[simp] theorem eo_no : evalO C .no η S = .ok none S := rfl
@[simp] theorem eo_yes {e} : evalO C (.yes e) η S = ((evalP C e).1 η S).bind fun w S1 => match w with
    | .d (.int i) => .ok (some i) S1
    | _ => .stk := rfl
theorem ec_no : evalC C .no = fun _ S => .ok true S := rfl
theorem ec_yes {e} : evalC C (.yes e) = (evalP C e).2 := rfl
@[simp] theorem ss_nil' : execSs C .nil η S = .ok (.nx η) S := rfl
@[simp] theorem ss_cons' {s ss} : execSs C (.cons s ss) η S = (execS C s η S).bind fun f S1 => match f with
    | .nx η1 => execSs C ss η1 S1
    | f => .ok f S1 := rfl
@[simp] theorem x_expr {e} : execS C (.expr e) η S = ((evalP C e).1 η S).bind fun _ S1 => .ok (.nx η) S1 := rfl
@[simp] theorem x_ret {e} : execS C (.ret e) η S = ((evalP C e).1 η S).bind fun w S1 => .ok (.ret w) S1 := rfl
@[simp] theorem x_asg {t e} : execS C (.asg t e) η S = ((evalP C e).1 η S).bind fun w S1 => (noExc (setT C t w η S1)).bind fun η1 S2 => .ok (.nx η1) S2 := rfl
@[simp] theorem x_par {is es} : execS C (.par is es) η S = (evalEs C es η S).bind fun ws S1 => (ofO (setNs is ws η) S1).bind fun η1 S2 => .ok (.nx η1) S2 := rfl
@[simp] theorem x_ife {c a b} : execS C (.ife c a b) η S = ((evalP C c).2 η S).bind fun k S1 => if k = true then execSs C a η S1 else execSs C b η S1 := rfl
@[simp] theorem x_for {t it b} : execS C (.for_ t it b) η S = (evalI C it η S).bind fun src S1 => forSrc (setT C t) (execSs C b) src η S1 := rfl
@[simp] theorem x_whl {c b} : execS C (.whl c b) η S = whileL (evalP C c).2 (execSs C b) C.fu η S := rfl
@[simp] theorem st_nm {i w} : setT C (.nm i) w η S = if i < η.length then .ok (η.set i (some w)) S else .stk := rfl
@[simp] theorem st_tup {ts w} : setT C (.tup ts) w η S = match seqOf w S with
    | some (.tup, xs) => setTs C ts xs η S
    | _ => .stk := rfl
@[simp] theorem sts_nil : setTs C .nil [] η S = .ok η S := rfl
@[simp] theorem sts_cons {t ts x xs} : setTs C (.cons t ts) (x :: xs) η S = (setT C t (.d x) η S).bind fun η1 S1 => setTs C ts xs η1 S1 := rfl
@[simp] theorem st_sub {o i w} : setT C (.sub o i) w η S = ((evalP C o).1 η S).bind fun x S1 => ((evalP C i).1 η S1).bind fun k S2 => (setSub x k w S2).bind fun _ S3 => .ok η S3 := rfl
@[simp] theorem st_fld {o f w} : setT C (.fld o f) w η S = ((evalP C o).1 η S).bind fun x S1 => (setFld C.P x f w S1).bind fun _ S2 => .ok η S2 := rfl
end
end RI
namespace P49
open RI
abbrev fu : Nat := 10000000000
abbrev St0 (h : List D) : Store := [.lst h]
abbrev run {P : Prog} {fu n f : Nat} {fd : FnD} {ws : List W} {S : Store} (h1 : P.fns[f]? = some fd) (h2 : ws.length = fd.np) : callF P fu (n + 1) f ws S = finish fd.keep S.length (execSs ⟨callF P fu n, P, fu⟩ fd.body (startE fd.N.length ws) S) := by
  show (match P.fns[f]? with
    | some fd => if ws.length = fd.np then finish fd.keep S.length (execSs ⟨callF P fu n, P, fu⟩ fd.body (startE fd.N.length ws) S) else .stk
    | none => .stk) = _
  rw [h1]
  dsimp only
  rw [if_pos h2]
class OkS (S : Store) : Prop where
  b : belows S.length S = true
instance {h : List D} : OkS [.lst h] := ⟨rfl⟩
instance {h a : List D} : OkS [.lst h, .lst a] := ⟨rfl⟩
instance {h a b : List D} : OkS [.lst h, .lst a, .lst b] := ⟨rfl⟩
variable {n : Nat} {S : Store} [OkS S]
@[simp] theorem fin_ret {x : D} : finish false S.length (.ok (.ret (.d x)) S) = .ok (.d x) S := by
  show (if belows S.length (S.take S.length) = true ∧ S.length ≤ S.length then (match freeze S.length (.d x) S with
    | some v => Res.ok v (S.take S.length)
    | none => .stk) else .stk) = _
  rw [List.take_length, if_pos ⟨OkS.b, Nat.le_refl _⟩]
  rfl
@[simp] theorem fin_nx {η : Env} : finish false S.length (.ok (.nx η) S) = .ok (.d .non) S := fin_ret
abbrev Num := Int × Int
def numD (m : Num) : D := .tup [.int m.1, .int m.2]
def rowD (r : List Num) : D := .tup (r.map numD)
def orowD : Option (List Num) → D
  | none => .non
  | some r => rowD r
def intsD (xs : List Int) : D := .tup (xs.map .int)
structure NumOk (m : Num) : Prop where
  pos : 1 ≤ m.2
  top : m.2 < 1000000000
  lo : -1000000000 < m.1
  hi : m.1 < 1000000000
  gcd : Int.gcd m.1 m.2 = 1
@[simp] theorem pyEq_int (i j : Int) : pyEq (.int i) (.int j) = some (decide (i = j)) := by
  unfold pyEq
  by_cases e : i = j
  · subst e; simp [toPD, PySem.SeqAt.shaped, PySem.PyData.eqv, PySem.PyData.canLay0, PySem.PyData.depth]
  · simp [toPD, PySem.SeqAt.shaped, PySem.PyData.eqv, PySem.PyData.canLay0, PySem.PyData.depth, e]
/-! ### loops over data -/
section
variable {set : W → Env → Store → Res Env} {tst : Env → Store → Res Bool} {elt : Env → Store → Res W} {η : Env} {S : Store}
/-- every turn adds g x -/
theorem lc_map (g : D → D) : ∀ (xs acc : List D), (∀ x ∈ xs, ∀ acc : List D, acc.length < line → lcTurn set tst elt η x acc S = .ok (acc ++ [g x]) S) → acc.length + xs.length ≤ line → lcFix set tst elt η xs acc S = .ok (acc ++ xs.map g) S
  | [], acc, _, _ => by simp [lcFix]
  | x :: xs, acc, ht, hl => by
    simp only [List.length_cons] at hl
    rw [lcFix, ht x (List.mem_cons_self ..) acc (by omega), Res.bind_ok, lc_map g xs (acc ++ [g x]) (fun y hy => ht y (List.mem_cons_of_mem _ hy)) (by simp; omega)]
    simp
end
theorem F2 {i : Int} : callF Ir.P fu (n+1) 2 [.d (.int i)] S = .ok (.d (.bl true)) S := by
  rw [run (fd := Ir.f2) rfl rfl]
  simp [Ir.f2, startE, getV, tyName, tyOk0, tyIs, truthy]
theorem F3 {i a b : Int} : callF Ir.P fu (n+2) 3 [.d (.int i), .d (.int a), .d (.int b)] S = .ok (.d (.bl (decide (a ≤ i) && decide (i ≤ b)))) S := by
  rw [run (fd := Ir.f3) rfl rfl]
  simp [Ir.f3, startE, getV, F2, truthy, cmpD, intC]
  by_cases h1 : a ≤ i <;> simp [h1]
theorem F4 {xs : List D} (hl : xs.length = 2) : callF Ir.P fu (n+1) 4 [.d (.tup xs)] S = .ok (.d (.bl true)) S := by
  match xs, hl with
  | [a, b], _ =>
    rw [run (fd := Ir.f4) rfl rfl]
    simp [Ir.f4, startE, getV, tyName, tyOk0, tyIs, truthy, biD, seqOf, cmpW, cmpD, eqOwn, clsOf, eqD, pyEq_int]
theorem F5 {xs : List D} {a b : Int} : callF Ir.P fu (n+1) 5 [.d (.tup xs), .d (.int a), .d (.int b)] S = .ok (.d (.bl (decide (a ≤ xs.length) && decide ((xs.length : Int) ≤ b)))) S := by
  rw [run (fd := Ir.f5) rfl rfl]
  simp [Ir.f5, startE, getV, tyName, tyOk0, tyIs, truthy, cmpD, intC, biD, seqOf]
  by_cases h1 : a ≤ xs.length <;> simp [h1]
end P49
namespace P49
open RI
variable {n : Nat} {S : Store} [OkS S]
theorem cmpW_eqI (C : Ctx) (i j : Int) (S : Store) : cmpW C .eq (.d (.int i)) (.d (.int j)) S = .ok (.d (.bl (decide (i = j)))) S := by
  simp [cmpW, eqOwn, clsOf, cmpD, eqD]
theorem cmpW_neI (C : Ctx) (i j : Int) (S : Store) : cmpW C .ne (.d (.int i)) (.d (.int j)) S = .ok (.d (.bl (!decide (i = j)))) S := by
  simp [cmpW, eqOwn, clsOf, cmpD, eqD]
theorem allB_map (p : D → Bool) : ∀ xs : List D, allB (xs.map fun x => .bl (p x)) = some (xs.all p)
  | [] => rfl
  | x :: xs => by simp [allB, allB_map p xs]
/-- the loop of divisor -/
theorem gcd_loop {C : Ctx} (S : Store) : ∀ (fu a b : Nat), b < fu → whileL (evalP C (.cmp .ne (.var 1) (.int 0))).2 (execSs C (.cons (.par [0, 1] (.cons (.var 1) (.cons (.bin .mod (.var 0) (.var 1)) .nil))) .nil)) fu [some (.d (.int a)), some (.d (.int b))] S
    = .ok (.nx [some (.d (.int (Nat.gcd a b))), some (.d (.int 0))]) S := by
  intro fu
  induction fu with
  | zero => intro a b h; omega
  | succ m ih =>
    intro a b h
    unfold whileL
    by_cases hb : b = 0
    · subst hb
      simp [getV, cmpW_neI, truthy]
    · have e : ((b : Int) = 0) = False := by simp [hb]
      have em : Int.fmod (a : Int) (b : Int) = ((a % b : Nat) : Int) := by
        rw [Int.fmod_eq_emod_of_nonneg _ (by omega)]
        exact (Int.natCast_emod a b).symm
      have hb' : ¬ ((b : Int) = 0) := by omega
      simp [getV, cmpW_neI, truthy, hb, binD, modD, setNs]
      rw [em, ih b (a % b) (by have := Nat.mod_lt a (Nat.pos_of_ne_zero hb); omega)]
      rw [Nat.gcd_comm a b, Nat.gcd_rec b a]
      simp [Nat.gcd_comm]
theorem F7 {a b : Int} (hb : b.natAbs < fu) : callF Ir.P fu (n+1) 7 [.d (.int a), .d (.int b)] S = .ok (.d (.int (Int.gcd a b))) S := by
  have ha : ∀ i : Int, (if i < 0 then -i else i) = ((i.natAbs : Nat) : Int) := fun i => by split <;> omega
  rw [run (fd := Ir.f7) rfl rfl]
  simp only [Ir.f7, startE, List.map, List.length, ss_cons', x_par, es_cons', es_nil', ev_bi, ev_var, getV]
  simp [biD, setNs, ha]
  rw [gcd_loop _ _ _ _ hb]
  simp [getV]
  rfl
end P49
namespace P49
open RI
variable {n : Nat} {S : Store} [OkS S]
theorem lc_nm {C : Ctx} {i : Nat} {e : IE} {η : Env} {S : Store} (g : D → D) {xs : List D} (hl : xs.length ≤ line) (hi : i < η.length) (he : ∀ x ∈ xs, (evalP C e).1 (η.set i (some (.d x))) S = .ok (.d (g x)) S) :
    lcSrc (setT C (.nm i)) (evalC C .no) (evalP C e).1 η (.fix xs) S = .ok (xs.map g) S := by
  have := lc_map (set := setT C (.nm i)) (tst := evalC C .no) (elt := (evalP C e).1) (η := η) (S := S) g xs [] (fun x hx acc ha => by
    unfold lcTurn
    simp [hi, ec_no, he x hx, ha]) (by simpa using hl)
  simpa [lcSrc] using this
/-- two names -/
theorem lc_nm2 {C : Ctx} {i j : Nat} {e : IE} {η : Env} {S : Store} (g : D → D) {xs : List D} (hl : xs.length ≤ line) (hi : i < η.length) (hj : j < η.length) (he : ∀ x ∈ xs, ∃ a b, x = .tup [a, b] ∧ (evalP C e).1 ((η.set i (some (.d a))).set j (some (.d b))) S = .ok (.d (g x)) S) :
    lcSrc (setT C (.tup (.cons (.nm i) (.cons (.nm j) .nil)))) (evalC C .no) (evalP C e).1 η (.fix xs) S = .ok (xs.map g) S := by
  have := lc_map (set := setT C (.tup (.cons (.nm i) (.cons (.nm j) .nil)))) (tst := evalC C .no) (elt := (evalP C e).1) (η := η) (S := S) g xs [] (fun x hx acc ha => by
    obtain ⟨a, b, rfl, he⟩ := he x hx
    unfold lcTurn
    simp [hi, hj, ec_no, he, ha, seqOf]) (by simpa using hl)
  simpa [lcSrc] using this
theorem allB_true {α : Type} (xs : List α) : allB (xs.map fun _ => .bl true) = some true := by
  induction xs with
  | nil => rfl
  | cons x xs ih => simp [allB, ih]
theorem F8 {m : Num} (hm : NumOk m) : callF Ir.P fu (n+2) 8 [.d (numD m)] S = .ok (.d (.bl true)) S := by
  have h1 := hm.pos
  have h2 := hm.top
  rw [run (fd := Ir.f8) rfl rfl]
  simp [Ir.f8, startE, getV, numD, F4, F2, truthy, ixD, seqOf, L2.atI, L2.ixN, cmpW, cmpD, intC]
  rw [F7 (by show m.2.natAbs < 10000000000; omega)]
  have : (0 : Int) < m.2 := by omega
  simp [this, hm.gcd, eqOwn, clsOf, eqD]
  all_goals first | exact fin_ret | rfl
theorem F9 {r : List Num} {k : Int} (hr : ∀ m ∈ r, NumOk m) (hk : (r.length : Int) = k) (hl : r.length ≤ line) : callF Ir.P fu (n+3) 9 [.d (rowD r), .d (.int k)] S = .ok (.d (.bl true)) S := by
  rw [run (fd := Ir.f9) rfl rfl]
  simp [Ir.f9, startE, getV, rowD, truthy, tyName, tyOk0, tyIs, biD, seqOf, cmpW_eqI, hk, wipeE, evalI]
  rw [lc_nm (fun _ => .bl true) (by simpa using hl) (by simp) (fun x hx => by
    obtain ⟨m, hm, rfl⟩ := List.mem_map.mp hx
    simp [getV, F8 (hr m hm)])]
  simp only [Res.bind_ok, noExc_ok, biD, lstOf, Option.bind_some, allB_true, Option.map_some, ofO_some]
  all_goals first | exact fin_ret | rfl
theorem F14 {r : D} {rs : List D} {l : D} {sp : Int} : callF Ir.P fu (n+1) 14 [.d (.obj 4 [(5, .tup rs), (4, l), (3, .int sp)])] S = .ok (.d (.int (rs.length + sp))) S := by
  rw [run (fd := Ir.f14) rfl rfl]
  simp [Ir.f14, startE, getV, fldD, lookN, biD, seqOf, binD, addD, show ordC Ir.P 4 = true from rfl]
  all_goals first | exact fin_ret | rfl
theorem F10 {a b : Int} (hb : 0 < b) (hf : b < 10000000000) (ha : a.natAbs.log2 < 100000) : callF Ir.P fu (n+2) 10 [.d (.int a), .d (.int b)] S = .ok (.d (.tup [.int (a / Int.gcd a b), .int (b / Int.gcd a b)])) S := by
  have hg : 0 < Int.gcd a b := Int.gcd_pos_of_ne_zero_right _ (by omega)
  have hgl : Int.gcd a b ≤ b.natAbs := Nat.le_of_dvd (by omega) (Nat.gcd_dvd_right _ _)
  have hl : (Int.gcd a b).log2 < 9000 := by
    rw [Nat.log2_lt (by omega)]
    refine Nat.lt_of_le_of_lt hgl (Nat.lt_of_lt_of_le (show b.natAbs < 2 ^ 34 by omega) ?_)
    exact Nat.pow_le_pow_right (by decide) (by decide)
  rw [run (fd := Ir.f10) rfl rfl]
  simp [Ir.f10, startE, getV, truthy, cmpD, intC, cmpW, hb]
  rw [F7 (by show b.natAbs < 10000000000; omega)]
  have e1 : a.fdiv (Int.gcd a b) = a / Int.gcd a b := Int.fdiv_eq_ediv_of_nonneg _ (by omega)
  have e2 : b.fdiv (Int.gcd a b) = b / Int.gcd a b := Int.fdiv_eq_ediv_of_nonneg _ (by omega)
  simp [getV, binD, fdivD, hg, hl, e1, e2]
  all_goals first | exact fin_ret | rfl
theorem F11 {m : Num} (hm : NumOk m) : callF Ir.P fu (n+3) 11 [.d (.tup [.int (-1), .int 1]), .d (numD m)] S = .ok (.d (numD (-m.1, m.2))) S := by
  have h1 := hm.pos
  have h2 := hm.top
  have h3 := hm.lo
  have h4 := hm.hi
  have hb1 : bitsOk (-1) m.1 = true := by
    unfold bitsOk
    rw [decide_eq_true_iff]
    have : m.1.natAbs.log2 < 40 := by
      by_cases e : m.1.natAbs = 0
      · rw [e]; decide
      · rw [Nat.log2_lt e]; omega
    have : (-1 : Int).natAbs.log2 = 0 := by decide
    omega
  have hb2 : bitsOk 1 m.2 = true := by
    unfold bitsOk
    rw [decide_eq_true_iff]
    have : m.2.natAbs.log2 < 40 := by
      rw [Nat.log2_lt (by omega)]; omega
    have : (1 : Int).natAbs.log2 = 0 := by decide
    omega
  have hg : Int.gcd (-m.1) m.2 = 1 := by rw [Int.neg_gcd]; exact hm.gcd
  have hl : (-m.1).natAbs.log2 < 100000 := by
    by_cases e : (-m.1).natAbs = 0
    · rw [e]; decide
    · rw [Nat.log2_lt e]; refine Nat.lt_of_lt_of_le (show (-m.1).natAbs < 2 ^ 34 by omega) (Nat.pow_le_pow_right (by decide) (by decide))
  rw [run (fd := Ir.f11) rfl rfl]
  simp [Ir.f11, startE, getV, numD, ixD, seqOf, L2.atI, L2.ixN, binD, mulD, hb1, hb2]
  rw [F10 (by omega) (by omega) hl]
  simp [hg]
  all_goals first | exact fin_ret | rfl
theorem cut_from {α : Type} (xs : List α) (k : Nat) : cut xs (some (k : Int)) none = xs.drop k := by
  unfold cut
  rw [HT.sIx_nat, HT.sIx_none]
  by_cases h : k ≤ xs.length
  · rw [Nat.min_eq_left h, List.take_of_length_le (by rw [List.length_drop]; exact Nat.le_refl _)]
  · rw [Nat.min_eq_right (by omega), List.drop_eq_nil_of_le (Nat.le_refl _), List.drop_eq_nil_of_le (by omega), List.take_nil]
theorem cut_to {α : Type} (xs : List α) (k : Nat) : cut xs none (some (k : Int)) = xs.take k := by
  unfold cut
  rw [HT.sIx_nat, HT.sIx_none, List.drop_zero, Nat.sub_zero]
  by_cases h : k ≤ xs.length
  · rw [Nat.min_eq_left h]
  · rw [Nat.min_eq_right (by omega), List.take_of_length_le (Nat.le_refl _), List.take_of_length_le (by omega)]
theorem cut_last {α : Type} (xs : List α) : cut xs none (some (-1)) = xs.dropLast := by
  unfold cut
  rw [HT.sIx_none, List.drop_zero, Nat.sub_zero, List.dropLast_eq_take]
  congr 1
  have : HT.sIx xs.length xs.length (some (-1)) = ((-1 : Int) + (xs.length : Int)).toNat := rfl
  rw [this]
  omega
/-! ### the wish -/
def incr : List Int → Bool
  | a :: b :: r => decide (a < b) && incr (b :: r)
  | _ => true
structure WishOk (rows : List (Option (List Num))) (locked : List Int) (spare : Int) : Prop where
  r1 : 1 ≤ rows.length
  r6 : rows.length ≤ 6
  row : ∀ r, some r ∈ rows → r.length = rows.length ∧ ∀ m ∈ r, NumOk m
  lk : ∀ c ∈ locked, 0 ≤ c ∧ c < rows.length
  inc : incr locked = true
  s0 : 0 ≤ spare
  s2 : spare ≤ 2
theorem zip_incr : ∀ xs : List Int, ((((xs.map D.int).zip ((xs.map D.int).drop 1)).map fun p => D.tup [p.1, p.2]).map fun d => match d with
    | .tup [.int a, .int b] => D.bl (decide (a < b))
    | _ => .bl true) = ((xs.zip (xs.drop 1)).map fun p => D.bl (decide (p.1 < p.2)))
  | [] => rfl
  | [_] => rfl
  | a :: b :: r => by
    have := zip_incr (b :: r)
    simp at this
    simp [this]
theorem incr_all : ∀ xs : List Int, allB ((xs.zip (xs.drop 1)).map fun p => D.bl (decide (p.1 < p.2))) = some (incr xs)
  | [] => rfl
  | [_] => rfl
  | a :: b :: r => by
    have := incr_all (b :: r)
    simp at this
    simp [allB, this, incr]
theorem incr_len : ∀ (xs : List Int) (lo : Int) (k : Nat), (∀ c ∈ xs, lo ≤ c ∧ c < lo + k) → incr xs = true → xs.length ≤ k
  | [], _, _, _, _ => by simp
  | [a], lo, k, hb, _ => by
    have := hb a (by simp)
    simp
    omega
  | a :: b :: r, lo, k, hb, hi => by
    simp [incr] at hi
    have ha := hb a (by simp)
    have key : ∀ (ys : List Int) (z : Int), incr (z :: ys) = true → ∀ c ∈ ys, z < c := by
      intro ys
      induction ys with
      | nil => intro z _ c hc; cases hc
      | cons y ys ih =>
        intro z hz c hc
        simp [incr] at hz
        rcases List.mem_cons.mp hc with e | e
        · rw [e]; exact hz.1
        · exact Int.lt_trans hz.1 (ih y hz.2 c e)
    have hb' : ∀ c ∈ b :: r, lo + 1 ≤ c ∧ c < lo + 1 + (k - 1 : Nat) := fun c hc => by
      have h1 := hb c (List.mem_cons_of_mem _ hc)
      have h2 : a < c := key (b :: r) a (by simp [incr, hi]) c hc
      omega
    have := incr_len (b :: r) (lo + 1) (k - 1) hb' hi.2
    simp at this ⊢
    omega
theorem F6 {locked : List Int} {k : Nat} (hk : k ≤ 6) (hb : ∀ c ∈ locked, 0 ≤ c ∧ c < k) (hi : incr locked = true) : callF Ir.P fu (n+3) 6 [.d (intsD locked), .d (.int k)] S = .ok (.d (.bl true)) S := by
  have hlen : locked.length ≤ k := incr_len locked 0 k (fun c hc => by have := hb c hc; omega) hi
  have hline : locked.length ≤ line := Nat.le_trans hlen (Nat.le_trans hk (by decide))
  rw [run (fd := Ir.f6) rfl rfl]
  simp [Ir.f6, startE, getV, intsD, truthy, tyName, tyOk0, tyIs, biD, seqOf, wipeE, evalI, slD]
  rw [lc_nm (fun _ => .bl true) (by simpa using hline) (by simp) (fun x hx => by
    obtain ⟨m, hm, rfl⟩ := List.mem_map.mp hx
    have := hb m hm
    have e : decide (m ≤ (k : Int) - 1) = true := by simp; omega
    simp [getV, binD, subD, F3, this.1, e])]
  simp only [Res.bind_ok, noExc_ok, biD, lstOf, Option.bind_some, allB_true, Option.map_some, ofO_some]
  simp [truthy, getV]
  have ec : cut (locked.map D.int) (some 1) none = (locked.map D.int).drop 1 := cut_from (locked.map D.int) 1
  rw [ec]
  rw [lc_nm2 (fun d => match d with
    | .tup [.int a, .int b] => D.bl (decide (a < b))
    | _ => .bl true) (by simp; omega) (by simp) (by simp) (fun x hx => by
      obtain ⟨p, hp, rfl⟩ := List.mem_map.mp hx
      obtain ⟨a, b⟩ := p
      have h1 := List.of_mem_zip hp
      obtain ⟨a', _, rfl⟩ := List.mem_map.mp h1.1
      obtain ⟨b', _, rfl⟩ := List.mem_map.mp (List.mem_of_mem_drop h1.2)
      exact ⟨_, _, rfl, by simp [getV, cmpW, cmpD, intC]⟩)]
  rw [zip_incr]
  simp only [Res.bind_ok, noExc_ok, biD, lstOf, Option.bind_some, incr_all, Option.map_some, ofO_some, hi]
  all_goals first | exact fin_ret | rfl
end P49
namespace P49
open RI
variable {n : Nat} {S : Store} [OkS S]
/-! ### digits -/
abbrev dg (m : Nat) : List Nat := TL.numL m
theorem decI_nat (m : Nat) : decI (m : Int) = dg m := TL.tl_num m
theorem decI_neg (m : Nat) (hm : 0 < m) : decI (-(m : Int)) = 45 :: dg m := by
  obtain ⟨k, rfl⟩ : ∃ k, m = k + 1 := ⟨m - 1, by omega⟩
  unfold dg
  rw [← TL.tl_num]
  unfold TL.tl decI
  rw [PyProof.Rows.signs_ofString, PyProof.Rows.signs_ofString]
  show (toString (Int.negSucc k)).toList.map Char.toNat = _
  have e1 : toString (Int.negSucc k) = "-" ++ toString (k + 1) := rfl
  have e2 : toString (((k + 1 : Nat) : Int)) = toString (k + 1) := rfl
  rw [e1, e2, String.toList_append]
  rfl
theorem digitsOk_of : ∀ l : List Nat, PySem.NumText.AllDigits l → digitsOk l = true
  | [], _ => rfl
  | c :: cs, hd => by
    have hc := hd.head
    simp [digitsOk, hc.1, hc.2, digitsOk_of cs hd.tail]
theorem dg_ok (m : Nat) : digitsOk (dg m) = true := digitsOk_of _ (TL.numL_digits m)
theorem dg_val (m : Nat) : decVal (dg m) = m := TL.numL_val m
theorem dg_len {m : Nat} (hm : m < 1000000000) : (dg m).length ≤ 9 := TL.numL_len (by decide) hm
theorem dg_pos (m : Nat) : 1 ≤ (dg m).length := by
  have := TL.numL_ne m
  cases e : dg m with
  | nil => exact absurd e this
  | cons a b => simp
theorem dg_head (m : Nat) (hm : 0 < m) : ∃ c cs, dg m = c :: cs ∧ c ≠ 48 := by
  induction m using Nat.strongRecOn with
  | _ m ih =>
    by_cases h : m < 10
    · exact ⟨48 + m, [], TL.numL_lt h, by omega⟩
    · obtain ⟨c, cs, e, hc⟩ := ih (m / 10) (by omega) (by omega)
      refine ⟨c, cs ++ [48 + m % 10], ?_, hc⟩
      unfold dg at e ⊢
      rw [TL.numL_step (by omega), e]; rfl
theorem dg_one {m : Nat} (h : 1 < (dg m).length) : ∃ c cs, dg m = c :: cs ∧ c ≠ 48 := by
  by_cases h0 : m = 0
  · subst h0
    simp [dg, TL.numL_lt] at h
  · exact dg_head m (by omega)
theorem dg_free {m s : Nat} (h : s < 48 ∨ 57 < s) : s ∉ dg m := TL.numL_free h
theorem log_ok {i : Int} (h1 : -1000000000 < i) (h2 : i < 1000000000) : i.natAbs.log2 < 1920 := by
  by_cases e : i.natAbs = 0
  · rw [e]; decide
  · rw [Nat.log2_lt e]
    exact Nat.lt_of_lt_of_le (show i.natAbs < 2 ^ 34 by omega) (Nat.pow_le_pow_right (by decide) (by decide))
/-! ### a number's text -/
def numTx (m : Num) : List Nat := if m.2 = 1 then decI m.1 else decI m.1 ++ 47 :: decI m.2
theorem decI_len {i : Int} (h1 : -1000000000 < i) (h2 : i < 1000000000) : (decI i).length ≤ 10 := by
  by_cases hn : 0 ≤ i
  · obtain ⟨m, rfl⟩ := Int.eq_ofNat_of_zero_le hn
    rw [decI_nat]
    have := dg_len (m := m) (by omega)
    omega
  · obtain ⟨m, hm⟩ : ∃ m : Nat, i = -(m : Int) := ⟨i.natAbs, by omega⟩
    subst hm
    rw [decI_neg m (by omega)]
    have := dg_len (m := m) (by omega)
    simp; omega
theorem numTx_len {m : Num} (hm : NumOk m) : (numTx m).length ≤ 21 := by
  unfold numTx
  have h1 := decI_len hm.lo hm.hi
  have h2 := decI_len (i := m.2) (by have := hm.pos; omega) hm.top
  split
  · omega
  · simp; omega
theorem F18 {m : Num} (hm : NumOk m) : callF Ir.P fu (n+1) 18 [.d (numD m)] S = .ok (.d (.str (numTx m))) S := by
  have h1 := decI_len hm.lo hm.hi
  have h2 := decI_len (i := m.2) (by have := hm.pos; omega) hm.top
  have l1 := log_ok hm.lo hm.hi
  have l2 := log_ok (i := m.2) (by have := hm.pos; omega) hm.top
  have g1 : (decI m.1).length + 1 ≤ line := Nat.le_trans (by omega : _ ≤ 100) (by decide)
  have g2 : (decI m.1).length + 1 + (decI m.2).length ≤ line := Nat.le_trans (by omega : _ ≤ 100) (by decide)
  rw [run (fd := Ir.f18) rfl rfl]
  simp [Ir.f18, startE, getV, numD, seqOf, cmpW_eqI, truthy]
  by_cases e : m.2 = 1
  · simp [e, biD, l1, numTx]
    all_goals first | exact fin_ret | rfl
  · simp [e, biD, l1, l2, numTx, binD, addD, g1, g2]
    all_goals first | exact fin_ret | rfl
theorem F44 {m : Num} (hm : NumOk m) : callF Ir.P fu (n+1) 44 [.d (numD m)] S = .ok (.d (.str (numTx m))) S := by
  have h1 := decI_len hm.lo hm.hi
  have h2 := decI_len (i := m.2) (by have := hm.pos; omega) hm.top
  have l1 := log_ok hm.lo hm.hi
  have l2 := log_ok (i := m.2) (by have := hm.pos; omega) hm.top
  have g0 : (decI m.1).length ≤ line := Nat.le_trans (by omega : _ ≤ 100) (by decide)
  have g1 : 1 + (decI m.2).length ≤ line := Nat.le_trans (by omega : _ ≤ 100) (by decide)
  have g2 : (decI m.1).length + ((decI m.2).length + 1) ≤ line := Nat.le_trans (by omega : _ ≤ 100) (by decide)
  rw [run (fd := Ir.f44) rfl rfl]
  simp [Ir.f44, startE, getV, numD, ixD, seqOf, L2.atI, L2.ixN, cmpW_eqI, truthy]
  by_cases e : m.2 = 1
  · simp [e, biD, l1, numTx, binD, addD, g0]
    all_goals first | exact fin_ret | rfl
  · simp [e, biD, l1, l2, numTx, binD, addD, g1, g2]
    all_goals first | exact fin_ret | rfl
def okS (s : List Nat) : Bool := s.all fun c => decide (c < 0x110000)
theorem pyEq_str {a b : List Nat} (ha : okS a = true) (hb : okS b = true) : pyEq (.str a) (.str b) = some (decide (a = b)) := by
  have s1 : PySem.PyData.strOk ⟨a.toArray⟩ = true := by
    unfold PySem.PyData.strOk
    simpa [okS] using ha
  have s2 : PySem.PyData.strOk ⟨b.toArray⟩ = true := by
    unfold PySem.PyData.strOk
    simpa [okS] using hb
  unfold pyEq
  by_cases e : a = b
  · subst e; simp [toPD, PySem.SeqAt.shaped, PySem.PyData.eqv, PySem.PyData.canLay0, PySem.PyData.depth, s1]
  · simp [toPD, PySem.SeqAt.shaped, PySem.PyData.eqv, PySem.PyData.canLay0, PySem.PyData.depth, e, s1, s2]
theorem dg_okS (m : Nat) : okS (dg m) = true := by
  unfold okS
  rw [List.all_eq_true]
  intro c hc
  have := (TL.numL_digits m c hc).2
  simp; omega
/-! ### reading digits -/
theorem F19 {m : Nat} (hm : m < 1000000000) : callF Ir.P fu (n+1) 19 [.d (.str (dg m))] S = .ok (.d (.int m)) S := by
  have hl := dg_len hm
  have hp := dg_pos m
  have hline : (dg m).length ≤ line := Nat.le_trans hl (by decide)
  have hne : dg m ≠ [] := by intro e; rw [e] at hp; simp at hp
  have p1 : decide ((1 : Int) ≤ (dg m).length) = true := by simp; omega
  have p2 : decide (((dg m).length : Int) ≤ 9) = true := by simp; omega
  rw [run (fd := Ir.f19) rfl rfl]
  simp only [Ir.f19, startE, ss_cons', x_ife, or2, ev_not2, ev_chain_t, ev_chain]
  simp [getV, biD, hline, cmpD, intC, truthy, show Ir.P.consts[5]? = some (.int 9) from rfl, show Ir.P.consts[4]? = some (.str [48, 49, 50, 51, 52, 53, 54, 55, 56, 57]) from rfl, p1, p2, evalI, wipeE]
  rw [lc_nm (fun _ => .bl true) (by simpa using hline) (by simp) (fun x hx => by
    obtain ⟨c, hc, rfl⟩ := List.mem_map.mp hx
    have hd := TL.numL_digits m c hc
    have : c ∈ [48, 49, 50, 51, 52, 53, 54, 55, 56, 57] := by
      obtain ⟨h1, h2⟩ := hd
      have : c = 48 ∨ c = 49 ∨ c = 50 ∨ c = 51 ∨ c = 52 ∨ c = 53 ∨ c = 54 ∨ c = 55 ∨ c = 56 ∨ c = 57 := by omega
      simpa using this
    simp [getV, show Ir.P.consts[4]? = some (.str [48, 49, 50, 51, 52, 53, 54, 55, 56, 57]) from rfl, cmpW, cmpD, inD]
    simpa using this)]
  simp only [Res.bind_ok, noExc_ok, biD, lstOf, Option.bind_some, allB_true, Option.map_some, ofO_some]
  simp [truthy, getV, biD, hline, cmpW, cmpD, intC, eqOwn, clsOf, eqD]
  by_cases h1 : 1 < (dg m).length
  · obtain ⟨c, cs, ec, hc⟩ := dg_one h1
    have hok : digitsOk (c :: cs) = true := ec ▸ dg_ok m
    have hv : decVal (c :: cs) = m := ec ▸ dg_val m
    have hll : (c :: cs).length ≤ 640 := by rw [← ec]; omega
    have hll2 : (c :: cs).length ≤ line := by rw [← ec]; exact hline
    have h1' : 1 < (c :: cs).length := ec ▸ h1
    rw [ec]
    have hq : pyEq (D.str [c]) (D.str [48]) = some false := by
      have : c < 0x110000 := by
        have := (TL.numL_digits m c (by show c ∈ dg m; rw [ec]; simp)).2
        omega
      rw [pyEq_str (by simp [okS, this]) (by decide)]
      simp [hc]
    have q1 : (1 : Int) < cs.length + 1 := by simp at h1'; omega
    have q2 : cs.length + 1 ≤ line := by simpa using hll2
    have q3 : cs.length ≤ 639 := by simp at hll; omega
    simp [ixD, L2.atI, L2.ixN, hq, hok, hv, q1, q2, q3]
    all_goals first | exact fin_ret | rfl
  · have q1 : ¬ (1 : Int) < (dg m).length := by omega
    have q3 : (dg m).length ≤ 640 := by omega
    simp [q1, q3, hne, dg_ok, dg_val]
    all_goals first | exact fin_ret | rfl
end P49
namespace P49
open RI
variable {n : Nat} {S : Store} [OkS S]
theorem split_none {c : Nat} : ∀ {a : List Nat}, c ∉ a → splitL c a = [a]
  | [], _ => rfl
  | x :: xs, hn => by
    have h1 : x ≠ c := fun e => hn (by simp [e])
    have h2 : c ∉ xs := fun e => hn (by simp [e])
    simp [splitL, h1, split_none h2]
theorem split_app {c : Nat} : ∀ {a b : List Nat}, c ∉ a → splitL c (a ++ c :: b) = a :: splitL c b
  | [], _, _ => by simp [splitL]
  | x :: xs, b, hn => by
    have h1 : x ≠ c := fun e => hn (by simp [e])
    have h2 : c ∉ xs := fun e => hn (by simp [e])
    simp [splitL, h1, split_app h2]
theorem pyEq_num (a b c d : Int) : pyEq (.tup [.int a, .int b]) (.tup [.int c, .int d]) = some (decide (a = c) && decide (b = d)) := by
  unfold pyEq
  simp [toPD, toPDs, PySem.SeqAt.shaped, PySem.PyData.eqv, PySem.PyData.canLay0, PySem.PyData.canLayAll0, PySem.PyData.depth, PySem.PyData.depthAll]
  simp [PySem.PyData.eqvAll, PySem.PyData.eqv]
  by_cases e1 : a = c <;> by_cases e2 : b = d <;> simp [e1, e2]
theorem l0 : 0 < line := by decide
theorem l1 : 1 < line := by decide
theorem F20 {p q : Nat} (hp : p < 1000000000) (h1 : 1 ≤ q) (hq : q < 1000000000) (hg : Nat.gcd p q = 1) :
    callF Ir.P fu (n+3) 20 [.d (.str (if q = 1 then dg p else dg p ++ 47 :: dg q))] S = .ok (.d (.tup [.int p, .int q])) S := by
  have lp := dg_len hp
  have lq := dg_len hq
  have hlog : (p : Int).natAbs.log2 < 100000 := Nat.lt_of_lt_of_le (log_ok (i := p) (by omega) (by omega)) (by decide)
  rw [run (fd := Ir.f20) rfl rfl]
  by_cases e : q = 1
  · subst e
    have hl : (dg p).length + 2 ≤ line := Nat.le_trans (by omega : _ ≤ 100) (by decide)
    simp [Ir.f20, startE, getV, evalI, recvOk, bmD, hl, split_none (dg_free (m := p) (s := 47) (by omega)), seqOf, wipeE, lcSrc, lcFix, lcTurn, ec_no, F19 hp, l0, l1]
    simp [truthy, getV, cmpW, cmpD, inD, seqOf, pyIn, flatD, eqF, biD, intC, eqOwn, clsOf, eqD, ixD, L2.atI, L2.ixN]
    all_goals first | exact fin_ret | rfl
  · have hl : (dg p).length + (dg q).length + 3 ≤ line := Nat.le_trans (by omega : _ ≤ 100) (by decide)
    have hl' : (dg p).length + ((dg q).length + 1) + 2 ≤ line := by omega
    have q2 : (1 : Int) < q := by omega
    simp [e, Ir.f20, startE, getV, evalI, recvOk, bmD, hl', split_app (dg_free (m := p) (s := 47) (by omega)), split_none (dg_free (m := q) (s := 47) (by omega)), seqOf, wipeE, lcSrc, lcFix, lcTurn, ec_no, F19 hp, F19 hq, l0, l1]
    simp [truthy, getV, cmpW, cmpD, inD, seqOf, pyIn, flatD, eqF, biD, intC, eqOwn, clsOf, eqD, ixD, L2.atI, L2.ixN, q2]
    rw [F10 (by omega) (by omega) hlog]
    simp [hg, Int.gcd, pyEq_num]
    all_goals first | exact fin_ret | rfl
theorem numTx_nat {p q : Nat} : numTx ((p : Int), (q : Int)) = if q = 1 then dg p else dg p ++ 47 :: dg q := by
  unfold numTx
  by_cases e : q = 1
  · simp [e, decI_nat]
  · have : ¬ (q : Int) = 1 := by omega
    simp [e, this, decI_nat]
theorem numTx_neg {p q : Nat} (hp : 0 < p) : numTx (-(p : Int), (q : Int)) = 45 :: (if q = 1 then dg p else dg p ++ 47 :: dg q) := by
  unfold numTx
  by_cases e : q = 1
  · simp [e, decI_neg p hp]
  · have : ¬ (q : Int) = 1 := by omega
    simp [e, this, decI_neg p hp, decI_nat]
theorem okS_app (a b : List Nat) : okS (a ++ b) = (okS a && okS b) := by simp [okS]
theorem okS_cons (c : Nat) (b : List Nat) : okS (c :: b) = (decide (c < 0x110000) && okS b) := rfl
theorem pos_okS (p q : Nat) : okS (if q = 1 then dg p else dg p ++ 47 :: dg q) = true := by
  split
  · exact dg_okS p
  · rw [okS_app, okS_cons, dg_okS, dg_okS]; rfl
theorem take1_dg (p : Nat) (r : List Nat) : ∃ c, (dg p ++ r).take 1 = [c] ∧ c ≠ 45 ∧ c < 0x110000 := by
  cases e : dg p with
  | nil => exact absurd e (TL.numL_ne p)
  | cons c cs =>
    have := TL.numL_digits p c (by show c ∈ dg p; rw [e]; simp)
    exact ⟨c, by simp, by omega, by omega⟩
theorem F21 {m : Num} (hm : NumOk m) : callF Ir.P fu (n+4) 21 [.d (.str (numTx m))] S = .ok (.d (numD m)) S := by
  obtain ⟨a, b⟩ := m
  have h1 := hm.pos
  have h2 := hm.top
  have h3 := hm.lo
  have h4 := hm.hi
  have h5 := hm.gcd
  simp only at h1 h2 h3 h4 h5
  obtain ⟨q, rfl⟩ := Int.eq_ofNat_of_zero_le (show (0 : Int) ≤ b by omega)
  have hlen := numTx_len hm
  have hline : (numTx (a, (q : Int))).length ≤ line := Nat.le_trans hlen (by decide)
  rw [run (fd := Ir.f21) rfl rfl]
  by_cases hn : 0 ≤ a
  · obtain ⟨p, rfl⟩ := Int.eq_ofNat_of_zero_le hn
    have hg : Nat.gcd p q = 1 := by simpa [Int.gcd] using h5
    have ht : ∃ c, (numTx ((p : Int), (q : Int))).take 1 = [c] ∧ c ≠ 45 ∧ c < 0x110000 := by
      rw [numTx_nat]
      split
      · simpa using take1_dg p []
      · exact take1_dg p (47 :: dg q)
    obtain ⟨c, hc, hc1, hc2⟩ := ht
    have hq : pyEq (.str [c]) (.str [45]) = some false := by
      rw [pyEq_str (by simp [okS, hc2]) (by decide)]
      simp [hc1]
    have ec : cut (numTx ((p : Int), (q : Int))) none (some 1) = [c] := (cut_to _ 1).trans hc
    have h20 := F20 (n := n) (S := S) (p := p) (q := q) (by omega) (by omega) (by omega) hg
    rw [← numTx_nat] at h20
    simp [Ir.f21, startE, getV, slD, hline, ec, cmpW, eqOwn, clsOf, cmpD, eqD, hq, truthy, h20, numD]
    all_goals first | exact fin_ret | rfl
  · obtain ⟨p, rfl⟩ : ∃ p : Nat, a = -(p : Int) := ⟨a.natAbs, by omega⟩
    have hp : 0 < p := by omega
    have hg : Nat.gcd p q = 1 := by simpa [Int.gcd] using h5
    have h20 := F20 (n := n) (S := S) (p := p) (q := q) (by omega) (by omega) (by omega) hg
    have hq : pyEq (.str [45]) (.str [45]) = some true := by
      rw [pyEq_str (by decide) (by decide)]; simp
    have e1 : cut (45 :: (if q = 1 then dg p else dg p ++ 47 :: dg q)) none (some 1) = [45] := cut_to _ 1
    have e2 : cut (45 :: (if q = 1 then dg p else dg p ++ 47 :: dg q)) (some 1) none = (if q = 1 then dg p else dg p ++ 47 :: dg q) := cut_from _ 1
    have h11 := F11 (n := n) (S := S) (m := ((p : Int), (q : Int))) ⟨h1, h2, by omega, by omega, by simpa [Int.gcd] using hg⟩
    rw [numTx_neg hp] at hline ⊢
    have hz : ¬ p = 0 := by omega
    generalize (if q = 1 then dg p else dg p ++ 47 :: dg q) = w at h20 e1 e2 hline ⊢
    have hline : w.length + 1 ≤ line := by simpa using hline
    simp [numD] at h11
    simp [Ir.f21, startE, getV, slD, hline, e1, e2, cmpW, eqOwn, clsOf, cmpD, eqD, hq, truthy, h20, show Ir.P.consts[0]? = some (.tup [.int 0, .int 1]) from rfl, show Ir.P.consts[6]? = some (.tup [.int (-1), .int 1]) from rfl, pyEq_num, hz, h11]
    simp [numD]
    all_goals first | exact fin_ret | rfl
/-- reading many words -/
theorem F22 {α : Type} {ws : List α} {tx : α → List Nat} {v : α → D} {f : Nat} {fd : FnD} (hf : Ir.P.fns[f]? = some fd) (hnp : fd.np = 1) (hv : ∀ a ∈ ws, callF Ir.P fu (n+4) f [.d (.str (tx a))] S = .ok (.d (v a)) S)
    (hl : ws.length ≤ line) (hn : ∀ a ∈ ws, inD (.d .non) (.d (.tup (ws.map v))) S = some false) (h0 : ws ≠ [] ∨ inD (.d .non) (.d (.tup (ws.map v))) S = some false) :
    callF Ir.P fu (n+5) 22 [.d (.lst (ws.map fun a => .str (tx a))), .d (.fn f)] S = .ok (.d (.tup (ws.map v))) S := by
  rw [run (fd := Ir.f22) rfl rfl]
  have hin : inD (.d .non) (.d (.tup (ws.map v))) S = some false := by
    rcases h0 with h0 | h0
    · cases ws with
      | nil => exact absurd rfl h0
      | cons a r => exact hn a (by simp)
    · exact h0
  have hl2 : ∀ acc : List D, True := fun _ => trivial
  simp [Ir.f22, startE, getV, evalI, seqOf, wipeE]
  have key : ∀ (xs : List α) (acc : List D), (∀ a ∈ xs, a ∈ ws) → acc.length + xs.length ≤ line → lcFix (setT ⟨callF Ir.P fu (n+4), Ir.P, fu⟩ (.nm 3)) (evalC ⟨callF Ir.P fu (n+4), Ir.P, fu⟩ .no) (evalP ⟨callF Ir.P fu (n+4), Ir.P, fu⟩ (.callv 1 (.cons (.var 3) .nil))).1
      [some (.d (.lst (ws.map fun a => .str (tx a)))), some (.d (.fn f)), none, none] (xs.map fun a => .str (tx a)) acc S = .ok (acc ++ xs.map v) S := by
    intro xs
    induction xs with
    | nil => intro acc _ _; simp [lcFix]
    | cons a r ih =>
      intro acc hm hlen
      simp only [List.length_cons] at hlen
      have ha : acc.length < line := by omega
      simp only [List.map_cons, lcFix, lcTurn, ec_no]
      simp [getV, hf, hnp, hv a (hm a (by simp)), ha]
      have := ih (acc ++ [v a]) (fun b hb => hm b (List.mem_cons_of_mem _ hb)) (by simp; omega)
      simp only [ec_no] at this
      rw [this]
      simp
  have k := key ws [] (fun _ h => h) (by simpa using hl)
  simp only [lcSrc, List.nil_append] at k ⊢
  rw [k]
  simp [biD, seqOf, cmpW, cmpD, hin, truthy]
  all_goals first | exact fin_ret | rfl
end P49
namespace P49
open RI
variable {n : Nat} {S : Store} [OkS S]
theorem joinL_nil (ts : List (List Nat)) : joinL [] ts = ts.flatten := by
  induction ts with
  | nil => rfl
  | cons x r ih =>
    cases r with
    | nil => simp [joinL]
    | cons y r => rw [joinL, ih]; simp
theorem joinL_len (sep : List Nat) (B : Nat) : ∀ ts : List (List Nat), (∀ t ∈ ts, t.length ≤ B) → (joinL sep ts).length ≤ ts.length * (B + sep.length)
  | [], _ => by simp [joinL]
  | [x], hx => by
    have := hx x (by simp)
    simp [joinL]; omega
  | x :: y :: r, hx => by
    have h1 := hx x (by simp)
    have h2 := joinL_len sep B (y :: r) (fun t ht => hx t (List.mem_cons_of_mem _ ht))
    simp only [joinL, List.length_append, List.length_cons] at h2 ⊢
    rw [Nat.add_mul _ 1, Nat.one_mul]
    omega
theorem sum_le (B : Nat) : ∀ ts : List (List Nat), (∀ t ∈ ts, t.length ≤ B) → (ts.map List.length).sum ≤ ts.length * B
  | [], _ => by simp
  | x :: r, hx => by
    have h1 := hx x (by simp)
    have h2 := sum_le B r (fun t ht => hx t (List.mem_cons_of_mem _ ht))
    simp only [List.map_cons, List.sum_cons, List.length_cons]
    rw [Nat.add_mul, Nat.one_mul]
    omega
theorem strsOf_map {α : Type} (f : α → List Nat) : ∀ xs : List α, strsOf (xs.map fun x => .str (f x)) = some (xs.map f)
  | [] => rfl
  | x :: xs => by simp [strsOf, strsOf_map f xs]
/-- the comprehension over a cell's list -/
theorem lc_locG {C : Ctx} {i : Nat} {e : IE} {η : Env} {S : Store} {l : Nat} {all : List D} (g : D → D) (hS : S[l]? = some (.lst all)) (hl : all.length ≤ line) (hi : i < η.length) (he : ∀ x ∈ all, (evalP C e).1 (η.set i (some (.d x))) S = .ok (.d (g x)) S) :
    lcSrc (setT C (.nm i)) (evalC C .no) (evalP C e).1 η (.loc l all.length) S = .ok (all.map g) S := by
  have key : ∀ (m j : Nat) (acc : List D), m + j = all.length → acc.length = j → lcLoc (setT C (.nm i)) (evalC C .no) (evalP C e).1 η l m j acc S = .ok (acc ++ (all.drop j).map g) S := by
    intro m
    induction m with
    | zero =>
      intro j acc hm ha
      unfold lcLoc
      simp [hS, show all.length ≤ j by omega]
      try (rw [List.drop_eq_nil_of_le (by omega)]; simp)
    | succ m ih =>
      intro j acc hm ha
      have hj : j < all.length := by omega
      unfold lcLoc lcTurn
      simp [hS, List.getElem?_eq_getElem hj, hi, ec_no, he all[j] (List.getElem_mem hj), show acc.length < line by omega]
      have := ih (j + 1) (acc ++ [g all[j]]) (by omega) (by simp; omega)
      simp only [ec_no] at this
      rw [this]
      congr 1
      have e1 : (all.drop j).map g = g all[j] :: (all.drop (j + 1)).map g := by rw [List.drop_eq_getElem_cons hj]; rfl
      have e2 : List.drop j (List.map g all) = (all.drop j).map g := List.map_drop.symm
      rw [e2, e1]
      simp
  have := key all.length 0 [] (by omega) rfl
  simpa [lcSrc] using this
/-! ### lines of words -/
def wt : D → List Nat
  | .int i => decI i
  | .str s => s
  | _ => []
def WOk (w : D) : Prop := (∃ s, w = .str s ∧ s.length ≤ 30) ∨ ∃ i, w = .int i ∧ -1000000000 < i ∧ i < 1000000000
def WL (ws : List D) : Prop := ws.length ≤ 10 ∧ ∀ w ∈ ws, WOk w
theorem wt_len {w : D} (hw : WOk w) : (wt w).length ≤ 30 := by
  rcases hw with ⟨s, rfl, hs⟩ | ⟨i, rfl, h1, h2⟩
  · exact hs
  · have := decI_len h1 h2
    show (decI i).length ≤ 30
    omega
def lineT (ws : List D) : List Nat := joinL [32] (ws.map wt) ++ [10]
def textT (L : List (List D)) : List Nat := (L.map lineT).flatten
theorem lineT_len {ws : List D} (hw : WL ws) : (lineT ws).length ≤ 311 := by
  have := joinL_len [32] 30 (ws.map wt) (fun t ht => by
    obtain ⟨w, hw1, rfl⟩ := List.mem_map.mp ht
    exact wt_len (hw.2 w hw1))
  have h1 := hw.1
  simp only [List.length_map, List.length_singleton] at this
  unfold lineT
  rw [List.length_append, List.length_singleton]
  have : ws.length * 31 ≤ 310 := by omega
  omega
theorem str_wd {w : D} (hw : WOk w) (S : Store) : biD .str [.d w] S = some (.str (wt w)) := by
  rcases hw with ⟨s, rfl, hs⟩ | ⟨i, rfl, h1, h2⟩
  · rfl
  · simp [biD, wt, log_ok h1 h2]
/-- one line -/
theorem line_elt {C : Ctx} {S : Store} {η : Env} {ws : List D} (hw : WL ws) (h1 : getV η 1 = some (.d (.lst ws))) (h2 : 2 < η.length) :
    (evalP C (.bin .add (.bm (.str [32]) .join (.cons (.lc (.bi .str (.cons (.var 2) .nil)) [2] (.nm 2) (.seq (.var 1)) .no) .nil)) (.str [10]))).1 η S = .ok (.d (.str (lineT ws))) S := by
  have hl : ws.length ≤ line := Nat.le_trans hw.1 (by decide)
  have hsum := sum_le 30 (ws.map wt) (fun t ht => by
    obtain ⟨w, hw1, rfl⟩ := List.mem_map.mp ht
    exact wt_len (hw.2 w hw1))
  have h10 := hw.1
  have hb : ((ws.map wt).map List.length).sum + (ws.map wt).length * 1 ≤ 16777216 := by
    simp only [List.length_map] at hsum ⊢
    omega
  have hln := lineT_len hw
  have hln2 : (joinL [32] (ws.map wt)).length + 1 ≤ line := by
    unfold lineT at hln
    rw [List.length_append, List.length_singleton] at hln
    exact Nat.le_trans (show _ ≤ 1000 by omega) (by decide)
  simp [h1, recvOk, evalI, seqOf, wipeE]
  rw [lc_nm (fun w => .str (wt w)) hl (by simp; omega) (fun x hx => by
    simp [getV, h2, str_wd (hw.2 x hx)])]
  simp only [Res.bind_ok, noExc_ok, bmD, seqOf, Option.bind_some, strsOf_map]
  rw [if_pos (by simpa using hb)]
  simp only [Res.bind_ok, binD, addD]
  rw [if_pos (by simpa using hln2)]
  rfl
theorem textT_join {L : List (List D)} (hL : L.length ≤ 100) (hw : ∀ ws ∈ L, WL ws) : ((L.map lineT).map List.length).sum + (L.map lineT).length * 0 ≤ 16777216 := by
  have := sum_le 311 (L.map lineT) (fun t ht => by
    obtain ⟨w, hw1, rfl⟩ := List.mem_map.mp ht
    exact lineT_len (hw w hw1))
  simp only [List.length_map] at this ⊢
  omega
def unL : D → List D
  | .lst ws => ws
  | _ => []
theorem F45d {L : List (List D)} (hL : L.length ≤ 100) (hw : ∀ ws ∈ L, WL ws) : callF Ir.P fu (n+1) 45 [.d (.lst (L.map .lst))] S = .ok (.d (.str (textT L))) S := by
  have hl : L.length ≤ line := Nat.le_trans hL (by decide)
  rw [run (fd := Ir.f45) rfl rfl]
  simp only [Ir.f45, startE, ss_cons', x_ret, ev_bm, ev_str, es_cons', ev_lc, evalI, ev_var]
  simp [getV, recvOk, seqOf, wipeE]
  rw [lc_nm (fun d => .str (lineT (unL d))) (by simpa using hl) (by simp) (fun x hx => by
    obtain ⟨ws, hws, rfl⟩ := List.mem_map.mp hx
    exact line_elt (hw ws hws) rfl (by simp))]
  have hj := textT_join hL hw
  have em : (L.map D.lst).map (fun d => D.str (lineT (unL d))) = L.map fun ws => D.str (lineT ws) := by rw [List.map_map]; rfl
  rw [em]
  simp only [Res.bind_ok, noExc_ok, bmD, seqOf, Option.bind_some, strsOf_map]
  rw [if_pos (by simpa using hj)]
  simp [joinL_nil, textT]
  all_goals first | exact fin_ret | rfl
theorem F45l {h : List D} {L : List (List D)} (hL : L.length ≤ 100) (hw : ∀ ws ∈ L, WL ws) : callF Ir.P fu (n+1) 45 [.loc 1] [.lst h, .lst (L.map .lst)] = .ok (.d (.str (textT L))) [.lst h, .lst (L.map .lst)] := by
  have hl : (L.map D.lst).length ≤ line := by rw [List.length_map]; exact Nat.le_trans hL (by decide)
  rw [run (fd := Ir.f45) rfl rfl]
  simp only [Ir.f45, startE, ss_cons', x_ret, ev_bm, ev_str, es_cons', ev_lc, evalI, ev_var]
  simp only [getV, recvOk, seqOf, wipeE, List.map, List.length, List.replicate, List.append, List.getElem?_cons_zero, List.getElem?_cons_succ, ofO_some, Res.bind_ok, if_true]
  have := lc_locG (C := ⟨callF Ir.P fu n, Ir.P, fu⟩) (i := 1) (e := .bin .add (.bm (.str [32]) .join (.cons (.lc (.bi .str (.cons (.var 2) .nil)) [2] (.nm 2) (.seq (.var 1)) .no) .nil)) (.str [10])) (η := [some (.loc 1), none, none]) (S := [.lst h, .lst (L.map .lst)]) (l := 1) (all := L.map .lst) (fun d => .str (lineT (unL d))) rfl hl (by simp) (fun x hx => by
    obtain ⟨ws, hws, rfl⟩ := List.mem_map.mp hx
    exact line_elt (hw ws hws) rfl (by simp))
  have em : (L.map D.lst).map (fun d => D.str (lineT (unL d))) = L.map fun ws => D.str (lineT ws) := by rw [List.map_map]; rfl
  rw [em] at this
  simp only [Nat.reduceSub, Nat.reduceAdd, List.replicate, List.cons_append, List.nil_append, List.set, List.getElem?_cons_zero, List.getElem?_cons_succ, Option.bind_some, ofO_some, Res.bind_ok, Bool.if_true_left]
  rw [this]
  have hj := textT_join hL hw
  simp only [Res.bind_ok, noExc_ok, es_nil', bmD, seqOf, Option.bind_some, strsOf_map]
  rw [if_pos (by simpa using hj)]
  simp [joinL_nil, textT]
  all_goals first | exact fin_ret | rfl
end P49
namespace P49
open RI
variable {n : Nat} {S : Store} [OkS S] {h : List D}
def rowW : Option (List Num) → List D
  | none => [.str [102, 114, 101, 101]]
  | some r => .str [114, 111, 119] :: r.map fun m => .str (numTx m)
def wishL (rows : List (Option (List Num))) (locked : List Int) (spare : Int) : List (List D) :=
  [[.str [99, 101, 108, 108, 115], .int rows.length], [.str [115, 112, 97, 114, 101], .int spare], .str [108, 111, 99, 107, 101, 100] :: locked.map .int] ++ rows.map rowW
def RowOk (k : Nat) : Option (List Num) → Prop
  | none => True
  | some r => r.length = k ∧ ∀ m ∈ r, NumOk m
theorem rowW_ok {k : Nat} (hk : k ≤ 9) {o : Option (List Num)} (ho : RowOk k o) : WL (rowW o) := by
  cases o with
  | none =>
    refine ⟨by decide, fun w hw => ?_⟩
    simp [rowW] at hw
    exact .inl ⟨_, hw, by decide⟩
  | some r =>
    obtain ⟨h1, h2⟩ := ho
    refine ⟨by simp [rowW]; omega, fun w hw => ?_⟩
    simp only [rowW, List.mem_cons, List.mem_map] at hw
    rcases hw with rfl | ⟨m, hm, rfl⟩
    · exact .inl ⟨_, rfl, by decide⟩
    · exact .inl ⟨_, rfl, Nat.le_trans (numTx_len (h2 m hm)) (by decide)⟩
/-- a comprehension over what stands for ws -/
theorem lc_nmT {α : Type} {C : Ctx} {i : Nat} {e : IE} {η : Env} {S : Store} (u v : α → D) {ws : List α} (hl : ws.length ≤ line) (hi : i < η.length) (he : ∀ a ∈ ws, (evalP C e).1 (η.set i (some (.d (u a)))) S = .ok (.d (v a)) S) :
    lcSrc (setT C (.nm i)) (evalC C .no) (evalP C e).1 η (.fix (ws.map u)) S = .ok (ws.map v) S := by
  have key : ∀ (xs : List α) (acc : List D), (∀ a ∈ xs, a ∈ ws) → acc.length + xs.length ≤ line → lcFix (setT C (.nm i)) (evalC C .no) (evalP C e).1 η (xs.map u) acc S = .ok (acc ++ xs.map v) S := by
    intro xs
    induction xs with
    | nil => intro acc _ _; simp [lcFix]
    | cons a r ih =>
      intro acc hm hlen
      simp only [List.length_cons] at hlen
      simp only [List.map_cons, lcFix, lcTurn]
      simp [hi, ec_no, he a (hm a (by simp)), show acc.length < line by omega]
      have := ih (acc ++ [v a]) (fun b hb => hm b (List.mem_cons_of_mem _ hb)) (by simp; omega)
      simp only [ec_no] at this
      rw [this]
      simp
  simpa [lcSrc] using key ws [] (fun _ h => h) (by simpa using hl)
theorem F46_loop {k : Nat} (hk : k ≤ 6) {a b c : W} : ∀ (xs : List (Option (List Num))) (o : Option W) (acc : List (List D)), (∀ x ∈ xs, RowOk k x) → acc.length + xs.length ≤ 100 →
    ∃ o', forFix (setT ⟨callF Ir.P fu (n+1), Ir.P, fu⟩ (.nm 4)) (execSs ⟨callF Ir.P fu (n+1), Ir.P, fu⟩ (.cons (.expr (.bm (.var 3) .append (.cons (.ifx (.isn false (.var 4)) (.lst (.cons (.str [102, 114, 101, 101]) .nil)) (.bin .add (.lst (.cons (.str [114, 111, 119]) .nil)) (.lc (.call 44 (.cons (.var 5) .nil)) [5] (.nm 5) (.seq (.var 4)) .no))) .nil))) .nil))
      (xs.map orowD) [some a, some b, some c, some (.loc 1), o, none] [.lst h, .lst (acc.map .lst)] = .ok (.nx [some a, some b, some c, some (.loc 1), o', none]) [.lst h, .lst ((acc ++ xs.map rowW).map .lst)]
  | [], o, acc, _, _ => ⟨o, by simp [forFix]⟩
  | x :: xs, o, acc, hx, hl => by
    simp only [List.length_cons] at hl
    have hx0 := hx x (by simp)
    have hacc : acc.length < line := Nat.lt_of_lt_of_le (show acc.length < 1000 by omega) (by decide)
    obtain ⟨o', ih⟩ := F46_loop hk (a := a) (b := b) (c := c) xs (some (.d (orowD x))) (acc ++ [rowW x]) (fun y hy => hx y (List.mem_cons_of_mem _ hy)) (by simp; omega)
    refine ⟨o', ?_⟩
    rw [List.map_cons, forFix]
    cases x with
    | none =>
      simp [orowD, getV, recvOk, lstOf, truthy, bmD, hacc]
      simp [orowD, rowW] at ih
      rw [ih]
      simp [rowW]
    | some r =>
      have h1 := hx0.1
      have h2 := hx0.2
      have hrl : r.length ≤ line := Nat.le_trans (show r.length ≤ 6 by omega) (by decide)
      have hrl2 : 1 + r.length ≤ line := Nat.le_trans (show 1 + r.length ≤ 7 by omega) (by decide)
      have key := lc_nmT (C := ⟨callF Ir.P fu (n+1), Ir.P, fu⟩) (i := 5) (e := .call 44 (.cons (.var 5) .nil)) (η := [some a, some b, some c, some (.loc 1), some (.d (rowD r)), none]) (S := [.lst h, .lst (acc.map .lst)]) (ws := r) numD (fun m => .str (numTx m)) hrl (by simp) (fun m hm => by
          simp [getV, F44 (h2 m hm)])
      simp [orowD, getV, recvOk, lstOf, truthy, evalI, rowD, seqOf, wipeE]
      rw [show (List.map numD r) = r.map numD from rfl] at *
      simp [rowD] at key
      rw [key]
      simp [binD, addD, lstOf, hrl2, bmD, hacc]
      simp [orowD, rowW, rowD] at ih
      rw [ih]
      simp [rowW]
theorem wishL_ok {k : Nat} {rows : List (Option (List Num))} {locked : List Int} {spare : Int} (h6 : rows.length ≤ 6) (hk : k ≤ 6) (hr : ∀ x ∈ rows, RowOk k x) (hl : locked.length ≤ 6) (hlk : ∀ c ∈ locked, 0 ≤ c ∧ c < 6) (hs : 0 ≤ spare ∧ spare ≤ 2) : (wishL rows locked spare).length ≤ 100 ∧ ∀ ws ∈ wishL rows locked spare, WL ws := by
  refine ⟨by simp [wishL]; omega, fun ws hws => ?_⟩
  simp only [wishL, List.mem_append, List.mem_cons, List.mem_map, List.not_mem_nil, or_false] at hws
  rcases hws with (rfl | rfl | rfl) | ⟨o, ho, rfl⟩
  · refine ⟨by simp, fun w hw => ?_⟩
    simp at hw
    rcases hw with rfl | rfl
    · exact .inl ⟨_, rfl, by decide⟩
    · exact .inr ⟨_, rfl, by omega, by omega⟩
  · refine ⟨by simp, fun w hw => ?_⟩
    simp at hw
    rcases hw with rfl | rfl
    · exact .inl ⟨_, rfl, by decide⟩
    · exact .inr ⟨_, rfl, by omega, by omega⟩
  · refine ⟨by simp; omega, fun w hw => ?_⟩
    simp only [List.mem_cons, List.mem_map] at hw
    rcases hw with rfl | ⟨c, hc, rfl⟩
    · exact .inl ⟨_, rfl, by decide⟩
    · have := hlk c hc
      exact .inr ⟨_, rfl, by omega, by omega⟩
  · exact rowW_ok (by omega) (hr o ho)
theorem F46 {k : Nat} {rows : List (Option (List Num))} {locked : List Int} {spare : Int} (h6 : rows.length ≤ 6) (hk : k ≤ 6) (hr : ∀ x ∈ rows, RowOk k x) (hl : locked.length ≤ 6) (hlk : ∀ c ∈ locked, 0 ≤ c ∧ c < 6) (hs : 0 ≤ spare ∧ spare ≤ 2) :
    callF Ir.P fu (n+2) 46 [.d (.tup (rows.map orowD)), .d (intsD locked), .d (.int spare)] [.lst h] = .ok (.d (.str (textT (wishL rows locked spare)))) [.lst h] := by
  obtain ⟨w1, w2⟩ := wishL_ok h6 hk hr hl hlk hs
  have e3 : 1 + locked.length ≤ line := Nat.le_trans (show 1 + locked.length ≤ 7 by omega) (by decide)
  obtain ⟨o', lp⟩ := F46_loop (n := n) (h := h) hk (a := .d (.tup (rows.map orowD))) (b := .d (intsD locked)) (c := .d (.int spare)) rows none ((wishL [] locked spare).set 0 [.str [99, 101, 108, 108, 115], .int rows.length]) hr (by simp [wishL]; omega)
  have el : (wishL [] locked spare).set 0 [.str [99, 101, 108, 108, 115], .int rows.length] ++ rows.map rowW = wishL rows locked spare := by simp [wishL]
  rw [el] at lp
  rw [run (fd := Ir.f46) rfl rfl]
  simp [Ir.f46, startE, getV, biD, seqOf, binD, addD, lstOf, intsD, e3, thawD, evalI, forSrc]
  simp [wishL, intsD] at lp
  rw [lp]
  have f45 := F45l (n := n) (h := h) w1 w2
  simp [wishL] at f45
  simp [getV, f45]
  simp [finish, close, belows, cellBelow, freeze, wishL]
end P49
namespace P49
open RI
variable {n : Nat} {S : Store} [OkS S] {h : List D}
/-- the words behind the first, each behind a gap -/
def gapT (ts : List (List Nat)) : List Nat := (ts.map fun t => 32 :: t).flatten
theorem join_gap (w : List Nat) : ∀ ts : List (List Nat), joinL [32] (w :: ts) = w ++ gapT ts
  | [] => by simp [joinL, gapT]
  | t :: ts => by
    rw [joinL, join_gap t ts]
    simp [gapT]
theorem gapT_len (B : Nat) {ts : List (List Nat)} (hB : ∀ t ∈ ts, t.length ≤ B) : (gapT ts).length ≤ ts.length * (B + 1) := by
  induction ts with
  | nil => simp [gapT]
  | cons t r ih =>
    have h1 := hB t (by simp)
    have h2 := ih (fun x hx => hB x (List.mem_cons_of_mem _ hx))
    simp only [gapT, List.map_cons, List.flatten_cons, List.length_append, List.length_cons] at h2 ⊢
    rw [Nat.add_mul, Nat.one_mul]
    omega
theorem F23 {r : List Num} (hr : ∀ m ∈ r, NumOk m) (hl : r.length ≤ 9) : callF Ir.P fu (n+2) 23 [.d (rowD r)] S = .ok (.d (.str (gapT (r.map numTx)))) S := by
  have hline : r.length ≤ line := Nat.le_trans hl (by decide)
  rw [run (fd := Ir.f23) rfl rfl]
  have key := lc_nmT (C := ⟨callF Ir.P fu (n+1), Ir.P, fu⟩) (i := 1) (e := .bin .add (.str [32]) (.call 18 (.cons (.var 1) .nil))) (η := [some (.d (rowD r)), none]) (S := S) (ws := r) numD (fun m => .str (32 :: numTx m)) hline (by simp) (fun m hm => by
    have := numTx_len (hr m hm)
    have hq : 1 + (numTx m).length ≤ line := Nat.le_trans (show _ ≤ 100 by omega) (by decide)
    simp [getV, F18 (hr m hm), binD, addD, hq])
  simp [Ir.f23, startE, getV, recvOk, evalI, rowD, seqOf, wipeE]
  simp [rowD] at key
  rw [key]
  have hs := sum_le 22 (r.map fun m => 32 :: numTx m) (fun t ht => by
    obtain ⟨m, hm, rfl⟩ := List.mem_map.mp ht
    have := numTx_len (hr m hm)
    simp; omega)
  simp only [List.length_map] at hs
  have e1 : (List.map (fun m => D.str (32 :: numTx m)) r) = r.map fun m => D.str ((fun m => 32 :: numTx m) m) := rfl
  simp only [Res.bind_ok, noExc_ok, es_nil', bmD, seqOf, Option.bind_some]
  rw [e1, strsOf_map]
  dsimp only
  rw [if_pos (by simp only [List.length_map, List.length_nil, Nat.mul_zero, Nat.add_zero]; omega)]
  simp [joinL_nil, gapT, List.map_map, Function.comp_def]
/-- the library's lines are the law's -/
theorem lib_row (o : Option (List Num)) : joinL [32] ((rowW o).map wt) = match o with
  | none => [102, 114, 101, 101]
  | some r => [114, 111, 119] ++ gapT (r.map numTx) := by
  cases o with
  | none => rfl
  | some r =>
    simp only [rowW, List.map_cons]
    rw [join_gap]
    simp [wt, List.map_map, Function.comp_def]
theorem F24_loop {k : Nat} (hk : k ≤ 6) {a : W} : ∀ (xs : List (Option (List Num))) (o : Option W) (acc : List (List Nat)), (∀ x ∈ xs, RowOk k x) → acc.length + xs.length ≤ 100 →
    ∃ o', forFix (setT ⟨callF Ir.P fu (n+2), Ir.P, fu⟩ (.nm 2)) (execSs ⟨callF Ir.P fu (n+2), Ir.P, fu⟩ (.cons (.expr (.bm (.var 1) .append (.cons (.ifx (.isn false (.var 2)) (.str [102, 114, 101, 101]) (.bin .add (.str [114, 111, 119]) (.call 23 (.cons (.var 2) .nil)))) .nil))) .nil))
      (xs.map orowD) [some a, some (.loc 1), o, none, none] [.lst h, .lst (acc.map .str)] = .ok (.nx [some a, some (.loc 1), o', none, none]) [.lst h, .lst ((acc ++ xs.map fun o => joinL [32] ((rowW o).map wt)).map .str)]
  | [], o, acc, _, _ => ⟨o, by simp [forFix]⟩
  | x :: xs, o, acc, hx, hl => by
    simp only [List.length_cons] at hl
    have hx0 := hx x (by simp)
    have hacc : acc.length < line := Nat.lt_of_lt_of_le (show acc.length < 1000 by omega) (by decide)
    obtain ⟨o', ih⟩ := F24_loop hk (a := a) xs (some (.d (orowD x))) (acc ++ [joinL [32] ((rowW x).map wt)]) (fun y hy => hx y (List.mem_cons_of_mem _ hy)) (by simp; omega)
    refine ⟨o', ?_⟩
    rw [List.map_cons, forFix]
    cases x with
    | none =>
      simp [orowD, getV, recvOk, lstOf, truthy, bmD, hacc]
      simp [orowD, lib_row] at ih
      simp [lib_row]
      exact ih
    | some r =>
      have h1 := hx0.1
      have h2 := hx0.2
      have hg := gapT_len 21 (ts := r.map numTx) (fun t ht => by
        obtain ⟨m, hm, rfl⟩ := List.mem_map.mp ht
        exact numTx_len (h2 m hm))
      simp only [List.length_map] at hg
      have hq : 3 + (gapT (r.map numTx)).length ≤ line := Nat.le_trans (show _ ≤ 1000 by omega) (by decide)
      have f23 := F23 (n := n) (S := [.lst h, .lst (acc.map .str)]) h2 (by omega)
      simp [rowD] at f23
      simp [orowD, rowD, getV, recvOk, lstOf, truthy, f23, binD, addD, hq, bmD, hacc]
      simp [orowD, rowD, lib_row] at ih
      simp [lib_row]
      exact ih
theorem bm_app {h xs : List D} {x : D} (hl : xs.length < line) : bmD .append (.loc 1) [.d x] [.lst h, .lst xs] = .ok (.d .non) [.lst h, .lst (xs ++ [x])] := by
  simp [bmD, hl]
theorem bm_join {S : Store} {sep : List Nat} {ts : List (List Nat)} (hb : (ts.map List.length).sum + ts.length * sep.length ≤ 16777216) : bmD .join (.d (.str sep)) [.d (.lst (ts.map .str))] S = .ok (.d (.str (joinL sep ts))) S := by
  have e : ts.map D.str = ts.map fun t => D.str (id t) := rfl
  simp only [bmD, seqOf, Option.bind_some]
  rw [e, strsOf_map]
  simp only [List.map_id]
  rw [if_pos hb]
theorem F24 {k : Nat} {rows : List (Option (List Num))} {locked : List Int} {spare : Int} (h6 : rows.length ≤ 6) (hk : k ≤ 6) (hr : ∀ x ∈ rows, RowOk k x) (hl : locked.length ≤ 6) (hlk : ∀ c ∈ locked, 0 ≤ c ∧ c < 6) (hs : 0 ≤ spare ∧ spare ≤ 2) :
    callF Ir.P fu (n+3) 24 [.d (.obj 4 [(5, .tup (rows.map orowD)), (4, intsD locked), (3, .int spare)])] [.lst h] = .ok (.d (.str (textT (wishL rows locked spare)))) [.lst h] := by
  have lr : rows.length.log2 < 1920 := by simpa using log_ok (i := rows.length) (by omega) (by omega)
  have ls := log_ok (i := spare) (by omega) (by omega)
  have b1 := decI_len (i := rows.length) (by omega) (by omega)
  have b2 := decI_len (i := spare) (by omega) (by omega)
  have q1 : 6 + (decI rows.length).length ≤ line := Nat.le_trans (show _ ≤ 100 by omega) (by decide)
  have q2 : 6 + (decI spare).length ≤ line := Nat.le_trans (show _ ≤ 100 by omega) (by decide)
  have hg := gapT_len 10 (ts := locked.map decI) (fun t ht => by
    obtain ⟨c, hc, rfl⟩ := List.mem_map.mp ht
    have := hlk c hc
    exact decI_len (by omega) (by omega))
  simp only [List.length_map] at hg
  have q3 : 6 + (gapT (locked.map decI)).length ≤ line := Nat.le_trans (show _ ≤ 1000 by omega) (by decide)
  have hline : locked.length ≤ line := Nat.le_trans (show _ ≤ 100 by omega) (by decide)
  let W0 : D := .obj 4 [(5, .tup (rows.map orowD)), (4, intsD locked), (3, .int spare)]
  let L2 : List (List Nat) := [[99, 101, 108, 108, 115, 32] ++ decI rows.length, [115, 112, 97, 114, 101, 32] ++ decI spare]
  let L3 : List (List Nat) := L2 ++ [[108, 111, 99, 107, 101, 100] ++ gapT (locked.map decI)]
  have key := lc_nmT (C := ⟨callF Ir.P fu (n+2), Ir.P, fu⟩) (i := 4) (e := .bin .add (.str [32]) (.bi .str (.cons (.var 4) .nil))) (η := [some (.d W0), some (.loc 1), none, none, none]) (S := [.lst h, .lst (L2.map .str)]) (ws := locked) D.int (fun c => .str (32 :: decI c)) hline (by simp) (fun c hc => by
    have hc' := hlk c hc
    have l := log_ok (i := c) (by omega) (by omega)
    have b := decI_len (i := c) (by omega) (by omega)
    have hq : 1 + (decI c).length ≤ line := Nat.le_trans (show _ ≤ 100 by omega) (by decide)
    simp [getV, biD, l, binD, addD, hq])
  obtain ⟨o', lp⟩ := F24_loop (n := n) (h := h) hk (a := .d W0) rows none L3 hr (by simp [L3, L2]; omega)
  have hsum := sum_le 10 (locked.map decI) (fun t ht => by
    obtain ⟨c, hc, rfl⟩ := List.mem_map.mp ht
    have := hlk c hc
    exact decI_len (by omega) (by omega))
  rw [run (fd := Ir.f24) rfl rfl]
  simp only [Ir.f24, startE]
  simp [getV, fldD, lookN, biD, seqOf, binD, addD, lr, ls, q1, q2, show ordC Ir.P 4 = true from rfl, thawD, recvOk, lstOf, evalI, intsD, wipeE]
  simp [L2, W0, intsD] at key
  rw [key]
  have ej := fun S => bm_join (S := S) (sep := []) (ts := locked.map fun c => 32 :: decI c) (by
    have := sum_le 11 (locked.map fun c => 32 :: decI c) (fun t ht => by
      obtain ⟨c, hc, rfl⟩ := List.mem_map.mp ht
      have hc' := hlk c hc
      have := decI_len (i := c) (by omega) (by omega)
      simp; omega)
    simp only [List.length_map, List.length_nil, Nat.mul_zero] at this ⊢
    omega)
  rw [joinL_nil, show (locked.map fun c => 32 :: decI c).flatten = gapT (locked.map decI) from by simp [gapT, List.map_map, Function.comp_def], show (locked.map fun c => 32 :: decI c).map D.str = locked.map fun c => D.str (32 :: decI c) from by simp [List.map_map, Function.comp_def]] at ej
  have eq3 : (([108, 111, 99, 107, 101, 100] : List Nat).length + (gapT (locked.map decI)).length ≤ line) = True := by simpa using q3
  simp [ej, q3, bm_app, show (2 : Nat) < line by decide, getV, fldD, lookN, show ordC Ir.P 4 = true from rfl, evalI, seqOf, forSrc]
  have eL : (L3 ++ rows.map fun o => joinL [32] ((rowW o).map wt)).map D.str = (wishL rows locked spare).map fun ws => D.str (joinL [32] (ws.map wt)) := by
    simp [L3, L2, wishL, wt, join_gap, gapT, joinL, List.map_map, Function.comp_def]
  rw [eL] at lp
  simp [W0, L3, L2, intsD] at lp
  rw [lp]
  obtain ⟨w1, w2⟩ := wishL_ok h6 hk hr hl hlk hs
  have k2 := lc_locG (C := ⟨callF Ir.P fu (n+2), Ir.P, fu⟩) (i := 3) (e := .bin .add (.var 3) (.str [10])) (η := [some (.d (.obj 4 [(5, .tup (rows.map orowD)), (4, .tup (locked.map .int)), (3, .int spare)])), some (.loc 1), o', none, none]) (S := [.lst h, .lst ((wishL rows locked spare).map fun ws => D.str (joinL [32] (ws.map wt)))]) (l := 1) (all := (wishL rows locked spare).map fun ws => D.str (joinL [32] (ws.map wt)))
    (fun d => match d with
      | .str s => .str (s ++ [10])
      | d => d) rfl (by rw [List.length_map]; exact Nat.le_trans w1 (by decide)) (by simp) (fun x hx => by
        obtain ⟨ws, hws, rfl⟩ := List.mem_map.mp hx
        have := lineT_len (w2 ws hws)
        unfold lineT at this
        rw [List.length_append, List.length_singleton] at this
        have hq : (joinL [32] (ws.map wt)).length + 1 ≤ line := Nat.le_trans (show _ ≤ 1000 by omega) (by decide)
        simp [getV, binD, addD, hq])
  have em : ((wishL rows locked spare).map fun ws => D.str (joinL [32] (ws.map wt))).map (fun d => match d with
      | .str s => .str (s ++ [10])
      | d => d) = ((wishL rows locked spare).map lineT).map D.str := by
    simp [List.map_map, Function.comp_def, lineT]
  rw [em] at k2
  have ej2 := fun S => bm_join (S := S) (sep := []) (ts := (wishL rows locked spare).map lineT) (textT_join w1 w2)
  generalize hA : ((wishL rows locked spare).map fun ws => D.str (joinL [32] (ws.map wt))) = A at k2 ⊢
  rw [joinL_nil] at ej2
  generalize hT : ((wishL rows locked spare).map lineT).map D.str = T at k2 ej2 ⊢
  simp [getV, k2, ej2]
  simp [finish, close, belows, cellBelow, freeze, textT]
end P49
namespace P49
open RI
variable {n : Nat} {S : Store} [OkS S] {h : List D}
theorem split_joinL {c : Nat} : ∀ {ts : List (List Nat)}, ts ≠ [] → (∀ t ∈ ts, c ∉ t) → splitL c (joinL [c] ts) = ts
  | [x], _, hx => by simp [joinL, split_none (hx x (by simp))]
  | x :: y :: r, _, hx => by
    rw [joinL, List.append_assoc]
    show splitL c (x ++ c :: joinL [c] (y :: r)) = _
    rw [split_app (hx x (by simp)), split_joinL (by simp) fun t ht => hx t (List.mem_cons_of_mem _ ht)]
theorem split_lines {c : Nat} : ∀ {ts : List (List Nat)}, (∀ t ∈ ts, c ∉ t) → splitL c (ts.map fun t => t ++ [c]).flatten = ts ++ [[]]
  | [], _ => rfl
  | x :: r, hx => by
    simp only [List.map_cons, List.flatten_cons, List.append_assoc, List.singleton_append, List.cons_append]
    rw [split_app (hx x (by simp)), List.nil_append, split_lines fun t ht => hx t (List.mem_cons_of_mem _ ht)]
/-- a line's text -/
def lineW (ws : List D) : List Nat := joinL [32] (ws.map wt)
/-- a word without gaps -/
def Cl (t : List Nat) : Prop := 10 ∉ t ∧ 32 ∉ t ∧ okS t = true
theorem cl_dg (m : Nat) : Cl (dg m) := ⟨dg_free (by omega), dg_free (by omega), dg_okS m⟩
theorem decI_cases {i : Int} : (∃ m : Nat, i = m ∧ decI i = dg m) ∨ ∃ m : Nat, i = -(m : Int) ∧ decI i = 45 :: dg m := by
  by_cases hn : 0 ≤ i
  · obtain ⟨m, rfl⟩ := Int.eq_ofNat_of_zero_le hn
    exact .inl ⟨m, rfl, decI_nat m⟩
  · obtain ⟨m, hm⟩ : ∃ m : Nat, i = -(m : Int) := ⟨i.natAbs, by omega⟩
    subst hm
    exact .inr ⟨m, rfl, decI_neg m (by omega)⟩
theorem cl_cons {c : Nat} {t : List Nat} (h1 : c ≠ 10) (h2 : c ≠ 32) (h3 : c < 0x110000) (ht : Cl t) : Cl (c :: t) := by
  obtain ⟨a, b, d⟩ := ht
  refine ⟨by simp [a]; exact fun e => h1 e.symm, by simp [b]; exact fun e => h2 e.symm, ?_⟩
  rw [okS_cons, d]; simp; exact h3
theorem cl_app {s t : List Nat} (hs : Cl s) (ht : Cl t) : Cl (s ++ t) := by
  obtain ⟨a, b, d⟩ := hs
  obtain ⟨a', b', d'⟩ := ht
  refine ⟨by simp [a, a'], by simp [b, b'], ?_⟩
  rw [okS_app, d, d']; rfl
theorem cl_dec (i : Int) : Cl (decI i) := by
  rcases decI_cases (i := i) with ⟨m, _, e⟩ | ⟨m, _, e⟩
  · rw [e]; exact cl_dg m
  · rw [e]; exact cl_cons (by decide) (by decide) (by decide) (cl_dg m)
theorem cl_num (m : Num) : Cl (numTx m) := by
  unfold numTx
  split
  · exact cl_dec _
  · exact cl_app (cl_dec _) (cl_cons (by decide) (by decide) (by decide) (cl_dec _))
structure WC (ws : List D) : Prop where
  ne : ws ≠ []
  cl : ∀ w ∈ ws, Cl (wt w)
theorem words_of {ws : List D} (hw : WC ws) : splitL 32 (lineW ws) = ws.map wt :=
  split_joinL (by simpa using hw.ne) fun t ht => by
    obtain ⟨w, hw1, rfl⟩ := List.mem_map.mp ht
    exact (hw.cl w hw1).2.1
theorem no10 : ∀ {ts : List (List Nat)}, (∀ t ∈ ts, 10 ∉ t) → 10 ∉ joinL [32] ts
  | [], _ => by simp [joinL]
  | [x], hx => by simpa [joinL] using hx x (by simp)
  | x :: y :: r, hx => by
    have := no10 (ts := y :: r) fun t ht => hx t (List.mem_cons_of_mem _ ht)
    simp only [joinL, List.mem_append, List.mem_singleton, not_or]
    exact ⟨⟨hx x (by simp), by decide⟩, this⟩
theorem line_no10 {ws : List D} (hw : WC ws) : 10 ∉ lineW ws := no10 fun t ht => by
  obtain ⟨w, hw1, rfl⟩ := List.mem_map.mp ht
  exact (hw.cl w hw1).1
theorem text_lines {L : List (List D)} (hL : ∀ ws ∈ L, WC ws) : splitL 10 (textT L) = L.map lineW ++ [[]] := by
  have := split_lines (c := 10) (ts := L.map lineW) (fun t ht => by
    obtain ⟨ws, hw, rfl⟩ := List.mem_map.mp ht
    exact line_no10 (hL ws hw))
  rw [← this]
  unfold textT
  rw [List.map_map]
  rfl
theorem wishL_wc {rows : List (Option (List Num))} {locked : List Int} {spare : Int} : ∀ ws ∈ wishL rows locked spare, WC ws := by
  intro ws hws
  have cs : ∀ t : List Nat, (t.all fun c => decide (c ≠ 10) && decide (c ≠ 32) && decide (c < 0x110000)) = true → Cl t := by
    intro t
    induction t with
    | nil => intro _; exact ⟨by simp, by simp, rfl⟩
    | cons c r ih =>
      intro h
      simp only [List.all_cons, Bool.and_eq_true, decide_eq_true_eq] at h
      exact cl_cons h.1.1.1 h.1.1.2 h.1.2 (ih h.2)
  simp only [wishL, List.mem_append, List.mem_cons, List.mem_map, List.not_mem_nil, or_false] at hws
  rcases hws with (rfl | rfl | rfl) | ⟨o, ho, rfl⟩
  · refine ⟨by simp, fun w hw => ?_⟩
    simp at hw
    rcases hw with rfl | rfl
    · exact cs _ (by decide)
    · exact cl_dec _
  · refine ⟨by simp, fun w hw => ?_⟩
    simp at hw
    rcases hw with rfl | rfl
    · exact cs _ (by decide)
    · exact cl_dec _
  · refine ⟨by simp, fun w hw => ?_⟩
    simp only [List.mem_cons, List.mem_map] at hw
    rcases hw with rfl | ⟨c, hc, rfl⟩
    · exact cs _ (by decide)
    · exact cl_dec _
  · cases o with
    | none =>
      refine ⟨by simp [rowW], fun w hw => ?_⟩
      simp [rowW] at hw
      subst hw
      exact cs _ (by decide)
    | some r =>
      refine ⟨by simp [rowW], fun w hw => ?_⟩
      simp only [rowW, List.mem_cons, List.mem_map] at hw
      rcases hw with rfl | ⟨m, hm, rfl⟩
      · exact cs _ (by decide)
      · exact cl_num m
theorem textT_len {L : List (List D)} (hL : L.length ≤ 100) (hw : ∀ ws ∈ L, WL ws) : (textT L).length ≤ 31100 := by
  have := sum_le 311 (L.map lineT) (fun t ht => by
    obtain ⟨w, hw1, rfl⟩ := List.mem_map.mp ht
    exact lineT_len (hw w hw1))
  unfold textT
  rw [List.length_flatten]
  simp only [List.length_map] at this
  omega
theorem F26 {L : List (List D)} (hL : L.length ≤ 100) (hw : ∀ ws ∈ L, WL ws) (hc : ∀ ws ∈ L, WC ws) :
    callF Ir.P fu (n+1) 26 [.d (.str (textT L))] S = .ok (.d (.tup [.lst (L.map fun ws => .str (lineW ws)), .str []])) S := by
  have hl : (textT L).length + 2 ≤ line := Nat.le_trans (show _ ≤ 40000 by have := textT_len hL hw; omega) (by decide)
  rw [run (fd := Ir.f26) rfl rfl]
  simp [Ir.f26, startE, getV, tyName, tyOk0, tyIs, truthy, recvOk, bmD, hl, text_lines hc, slD, seqOf, cut_last, ixD, List.map_append]
  have e1 : L2.atI (L.map (D.str ∘ lineW) ++ [D.str []]) (-1) = some (.str []) := L2.atI_last _ _
  simp [e1]
  all_goals rfl
end P49
namespace P49
open RI
variable {n : Nat} {S : Store} [OkS S] {h : List D}
theorem lineW_len {ws : List D} (hw : WL ws) : (lineW ws).length + 2 ≤ line := by
  have := lineT_len hw
  have e : lineT ws = lineW ws ++ [10] := rfl
  rw [e, List.length_append, List.length_singleton] at this
  exact Nat.le_trans (show _ ≤ 1000 by omega) (by decide)
/-- word_read -/
theorem F29 {w : List Nat} {m : Nat} (hw : okS w = true) (hm : m < 1000000000) (hc : WC [.str w, .int m]) (hl : WL [.str w, .int m]) :
    callF Ir.P fu (n+2) 29 [.d (.str (lineW [.str w, .int m])), .d (.str w)] S = .ok (.d (.int m)) S := by
  have hq : pyEq (.str w) (.str w) = some true := by rw [pyEq_str hw hw]; simp
  have e2 : decI (m : Int) = dg m := decI_nat m
  rw [run (fd := Ir.f29) rfl rfl]
  simp [Ir.f29, startE, getV, recvOk, bmD, lineW_len hl, words_of hc, wt, biD, seqOf, truthy, cmpW, eqOwn, clsOf, cmpD, eqD, ixD, L2.atI, L2.ixN, hq, e2, F19 hm]
/-- locked_read -/
theorem none_ints {α : Type} {S : Store} (f : α → Int) (ws : List α) : inD (.d .non) (.d (.tup (ws.map fun a => .int (f a)))) S = some false := by
  simp [inD, seqOf, pyIn, flatD, eqF]
theorem F30 {locked : List Int} (hb : ∀ c ∈ locked, 0 ≤ c ∧ c < 6) (hn : locked.length ≤ 6) (hl : WL (.str [108, 111, 99, 107, 101, 100] :: locked.map .int)) (hc : WC (.str [108, 111, 99, 107, 101, 100] :: locked.map .int)) :
    callF Ir.P fu (n+6) 30 [.d (.str (lineW (.str [108, 111, 99, 107, 101, 100] :: locked.map .int)))] S = .ok (.d (intsD locked)) S := by
  have hq : pyEq (.str [108, 111, 99, 107, 101, 100]) (.str [108, 111, 99, 107, 101, 100]) = some true := by rw [pyEq_str (by decide) (by decide)]; simp
  have hline : locked.length ≤ line := Nat.le_trans hn (by decide)
  have h22 := F22 (n := n) (S := S) (ws := locked) (tx := fun c => decI c) (v := fun c => .int c) (f := 19) (fd := Ir.f19) rfl rfl (fun c hc' => by
    have := hb c hc'
    obtain ⟨m, rfl⟩ := Int.eq_ofNat_of_zero_le this.1
    rw [decI_nat]
    exact F19 (by omega)) hline (fun _ _ => none_ints (fun c => c) locked) (.inr (none_ints (fun c => c) locked))
  rw [run (fd := Ir.f30) rfl rfl]
  simp [Ir.f30, startE, getV, recvOk, bmD, lineW_len hl, words_of hc, wt, seqOf, truthy, cmpW, eqOwn, clsOf, cmpD, eqD, ixD, L2.atI, L2.ixN, hq, slD]
  have e1 : cut (D.str [108, 111, 99, 107, 101, 100] :: locked.map (D.str ∘ wt ∘ D.int)) (some 1) none = locked.map fun c => D.str (decI c) := cut_from (D.str [108, 111, 99, 107, 101, 100] :: locked.map (D.str ∘ wt ∘ D.int)) 1
  simp [e1, h22, intsD]
theorem all_lay {α : Type} (f : α → PySem.PyData) : ∀ xs : List α, (∀ a ∈ xs, (f a).canLay0 = true) → PySem.PyData.canLayAll0 (xs.map f) = true
  | [], _ => rfl
  | x :: xs, hx => by
    simp [PySem.PyData.canLayAll0, hx x (by simp), all_lay f xs fun a ha => hx a (List.mem_cons_of_mem _ ha)]
theorem all_depth {α : Type} {d : Nat} (f : α → PySem.PyData) : ∀ xs : List α, (∀ a ∈ xs, (f a).depth ≤ d) → PySem.PyData.depthAll (xs.map f) ≤ d
  | [], _ => by simp [PySem.PyData.depthAll]
  | x :: xs, hx => by
    have h1 := hx x (by simp)
    have h2 := all_depth f xs fun a ha => hx a (List.mem_cons_of_mem _ ha)
    simp [PySem.PyData.depthAll]
    omega
theorem toPDs_map {α : Type} (u : α → D) (f : α → PySem.PyData) : ∀ xs : List α, (∀ a ∈ xs, toPD (u a) = some (f a)) → toPDs (xs.map u) = some (xs.map f)
  | [], _ => rfl
  | x :: xs, hx => by
    simp [toPDs, hx x (by simp), toPDs_map u f xs fun a ha => hx a (List.mem_cons_of_mem _ ha)]
def numP (m : Num) : PySem.PyData := .tuple [.int m.1, .int m.2]
theorem numP_ok (m : Num) : toPD (numD m) = some (numP m) ∧ (numP m).canLay0 = true ∧ (numP m).depth ≤ 2 := by
  refine ⟨rfl, rfl, ?_⟩
  simp [numP, PySem.PyData.depth, PySem.PyData.depthAll]
theorem none_nums {S : Store} (r : List Num) : inD (.d .non) (.d (.tup (r.map numD))) S = some false := by
  have e := toPDs_map numD numP r fun a _ => (numP_ok a).1
  have e2 := all_lay numP r fun a _ => (numP_ok a).2.1
  have e3 := all_depth (d := 2) numP r fun a _ => (numP_ok a).2.2
  have e4 : PySem.SeqAt.shaped (.list (r.map numP)) = true := by
    have : PySem.PyData.depthAll (r.map numP) + 1 ≤ 64 := by omega
    unfold PySem.SeqAt.shaped
    simp [PySem.PyData.canLay0, PySem.PyData.depth, e2, this]
  simp only [inD, seqOf, pyIn]
  split
  · next hf =>
    cases r with
    | nil => rfl
    | cons m r => simp [flatD, numD] at hf
  · rw [e]
    simp only [toPD]
    have : PySem.SeqAt.shaped .none = true := by decide
    simp [this, e4, numP, PySem.PyData.eqv]
def strP (s : List Nat) : PySem.PyData := .str ⟨s.toArray⟩
theorem strP_lay {s : List Nat} (hs : okS s = true) : (strP s).canLay0 = true ∧ (strP s).depth ≤ 0 := by
  refine ⟨?_, by simp [strP, PySem.PyData.depth]⟩
  simp only [strP, PySem.PyData.canLay0, PySem.PyData.strOk]
  simpa [okS] using hs
theorem eqv_strs : ∀ as bs : List (List Nat), PySem.PyData.eqvAll (as.map strP) (bs.map strP) = decide (as = bs)
  | [], [] => by simp [PySem.PyData.eqvAll]
  | [], _ :: _ => by simp [PySem.PyData.eqvAll]
  | _ :: _, [] => by simp [PySem.PyData.eqvAll]
  | a :: as, b :: bs => by
    simp only [List.map_cons, PySem.PyData.eqvAll, eqv_strs as bs]
    by_cases e : a = b
    · subst e; simp [strP, PySem.PyData.eqv]
    · simp [strP, PySem.PyData.eqv, e]
theorem pyEq_strs {as bs : List (List Nat)} (ha : ∀ a ∈ as, okS a = true) (hb : ∀ b ∈ bs, okS b = true) : pyEq (.lst (as.map .str)) (.lst (bs.map .str)) = some (decide (as = bs)) := by
  have e1 := toPDs_map D.str strP as fun _ _ => rfl
  have e2 := toPDs_map D.str strP bs fun _ _ => rfl
  have sh : ∀ xs : List (List Nat), (∀ a ∈ xs, okS a = true) → PySem.SeqAt.shaped (.list (xs.map strP)) = true := fun xs hx => by
    have l1 := all_lay strP xs fun a h => (strP_lay (hx a h)).1
    have l2 := all_depth (d := 0) strP xs fun a h => (strP_lay (hx a h)).2
    unfold PySem.SeqAt.shaped
    simp [PySem.PyData.canLay0, PySem.PyData.depth, l1]
    omega
  unfold pyEq
  simp only [toPD, e1, e2, Option.map_some]
  simp [sh as ha, sh bs hb, PySem.PyData.eqv, eqv_strs]
/-- item_read -/
theorem F31 {k : Nat} (hk : k ≤ 6) {o : Option (List Num)} (ho : RowOk k o) : callF Ir.P fu (n+6) 31 [.d (.str (lineW (rowW o)))] S = .ok (.d (.lst [orowD o])) S := by
  have hl := rowW_ok (k := k) (by omega) ho
  have hc : WC (rowW o) := wishL_wc (rows := [o]) (locked := []) (spare := 0) _ (by simp [wishL])
  rw [run (fd := Ir.f31) rfl rfl]
  cases o with
  | none =>
    have hq : pyEq (.lst [.str [102, 114, 101, 101]]) (.lst [.str [102, 114, 101, 101]]) = some true := (pyEq_strs (as := [[102, 114, 101, 101]]) (bs := [[102, 114, 101, 101]]) (by decide) (by decide)).trans (by simp)
    have hlen := lineW_len hl
    have hwd := words_of hc
    simp only [rowW] at hlen hwd
    simp [Ir.f31, startE, getV, recvOk, bmD, hlen, hwd, rowW, wt, seqOf, truthy, cmpW, eqOwn, clsOf, cmpD, eqD, hq, orowD]
  | some r =>
    have h2 := ho.2
    have h1 := ho.1
    have hlen := lineW_len hl
    have hwd := words_of hc
    have hq : pyEq (.lst (D.str [114, 111, 119] :: r.map fun m => D.str (numTx m))) (.lst [.str [102, 114, 101, 101]]) = some false := by
      have := pyEq_strs (as := [114, 111, 119] :: r.map numTx) (bs := [[102, 114, 101, 101]]) (by
        intro a ha
        rcases List.mem_cons.mp ha with rfl | ha
        · decide
        · obtain ⟨m, hm, rfl⟩ := List.mem_map.mp ha
          exact (cl_num m).2.2) (by decide)
      simpa [List.map_map, Function.comp_def] using this
    have hq2 : pyEq (.str [114, 111, 119]) (.str [114, 111, 119]) = some true := by rw [pyEq_str (by decide) (by decide)]; simp
    have h22 := F22 (n := n) (S := S) (ws := r) (tx := numTx) (v := numD) (f := 21) (fd := Ir.f21) rfl rfl (fun m hm => F21 (h2 m hm)) (Nat.le_trans (show r.length ≤ 6 by omega) (by decide)) (fun _ _ => none_nums r) (.inr (none_nums r))
    have ew : splitL 32 (lineW (rowW (some r))) = [114, 111, 119] :: r.map numTx := by
      rw [hwd]; simp [rowW, wt, List.map_map, Function.comp_def]
    have ec : cut (D.str [114, 111, 119] :: r.map fun m => D.str (numTx m)) (some 1) none = r.map fun m => D.str (numTx m) := cut_from (D.str [114, 111, 119] :: r.map fun m => D.str (numTx m)) 1
    have em : (r.map numTx).map D.str = r.map fun m => D.str (numTx m) := by simp [List.map_map, Function.comp_def]
    generalize lineW (rowW (some r)) = lw at hlen ew ⊢
    simp only [Ir.f31, startE]
    simp [getV, recvOk, bmD, hlen, ew]
    rw [show List.map (D.str ∘ numTx) r = r.map fun m => D.str (numTx m) from rfl]
    simp [seqOf, truthy, getV, cmpW, eqOwn, clsOf, cmpD, eqD, hq, hq2, ixD, L2.atI, L2.ixN, slD, ec, h22, orowD, rowD]
end P49
namespace P49
open RI
variable {n : Nat} {S : Store} [OkS S] {h : List D}
theorem F28 {x : D} {i : Int} (hx : x ≠ .non) : callF Ir.P fu (n+1) 28 [.d x, .d (.int i)] S = .ok (.d .non) S := by
  rw [run (fd := Ir.f28) rfl rfl]
  have : ∀ S1 : Store, (match (W.d x : W) with
    | .d .non => Res.ok (W.d (D.bl (!false))) S1
    | _ => .ok (.d (.bl false)) S1) = .ok (.d (.bl false)) S1 := by
    intro S1
    cases x with
    | non => exact absurd rfl hx
    | _ => rfl
  simp [Ir.f28, startE, getV, truthy]
  cases x with
  | non => exact absurd rfl hx
  | _ => simp
theorem F27 {x : D} : callF Ir.P fu (n+1) 27 [.d x, .d (.str [])] S = .ok (.d .non) S := by
  have hq : pyEq (.str []) (.str []) = some true := by rw [pyEq_str (by decide) (by decide)]; simp
  rw [run (fd := Ir.f27) rfl rfl]
  simp [Ir.f27, startE, getV, truthy, cmpW, eqOwn, clsOf, cmpD, eqD, hq]
/-! ### the wish object -/
structure WOkk (rows : List (Option (List Num))) (locked : List Int) (spare : Int) : Prop where
  r1 : 1 ≤ rows.length
  r6 : rows.length ≤ 6
  row : ∀ x ∈ rows, RowOk rows.length x
  lk : ∀ c ∈ locked, 0 ≤ c ∧ c < rows.length
  inc : incr locked = true
  s0 : 0 ≤ spare
  s2 : spare ≤ 2
theorem WOkk.len {rows : List (Option (List Num))} {locked : List Int} {spare : Int} (w : WOkk rows locked spare) : locked.length ≤ 6 :=
  Nat.le_trans (incr_len locked 0 rows.length (fun c hc => by have := w.lk c hc; omega) w.inc) w.r6
def wishD (rows : List (Option (List Num))) (locked : List Int) (spare : Int) : D := .obj 4 [(5, .tup (rows.map orowD)), (4, intsD locked), (3, .int spare)]
/-- the checks of the rows -/
theorem F12_loop {k : Nat} {C : Ctx} (hC : C = ⟨callF Ir.P fu (n+3), Ir.P, fu⟩) (hk : k ≤ 6) {a c d : W} {rs : List D} (hrs : rs.length = k) : ∀ (xs : List (Option (List Num))) (j : Nat) (o1 o2 : Option W), (∀ x ∈ xs, RowOk k x) →
    ∃ o1' o2', forFix (setT C (.tup (.cons (.nm 4) (.cons (.nm 5) .nil)))) (execSs C (.cons (.ife (.and (.cons (.isn true (.var 5)) (.cons (.not (.call 9 (.cons (.var 5) (.cons (.bi .len (.cons (.var 1) .nil)) .nil)))) .nil))) (.cons (.raise 9999 .nil) .nil) .nil) .nil))
      ((xs.map orowD).mapIdx fun i x => .tup [.int ((j + i : Nat) : Int), x]) [some a, some (.d (.tup rs)), some c, some d, o1, o2] S = .ok (.nx [some a, some (.d (.tup rs)), some c, some d, o1', o2']) S
  | [], j, o1, o2, _ => ⟨o1, o2, by simp [forFix]⟩
  | x :: xs, j, o1, o2, hx => by
    subst hC
    have hx0 := hx x (by simp)
    obtain ⟨p, q, ih⟩ := F12_loop rfl hk (a := a) (c := c) (d := d) hrs xs (j + 1) (some (.d (.int j))) (some (.d (orowD x))) (fun y hy => hx y (List.mem_cons_of_mem _ hy))
    refine ⟨p, q, ?_⟩
    rw [List.map_cons, List.mapIdx_cons, forFix]
    have em : ((xs.map orowD).mapIdx fun i x => D.tup [.int ((j + (i + 1) : Nat) : Int), x]) = (xs.map orowD).mapIdx fun i x => D.tup [.int ((j + 1 + i : Nat) : Int), x] := by
      congr 1
      funext i x
      rw [show j + (i + 1) = j + 1 + i by omega]
    rw [em]
    cases x with
    | none =>
      simp [seqOf, orowD, getV, truthy]
      simpa [orowD] using ih
    | some r =>
      have h9 := F9 (n := n) (S := S) (k := k) hx0.2 (by rw [hx0.1]) (Nat.le_trans (show r.length ≤ 6 by have := hx0.1; omega) (by decide))
      simp [rowD] at h9
      simp [seqOf, orowD, rowD, getV, truthy, biD, hrs, h9]
      simpa [orowD, rowD] using ih
theorem F12 {rows : List (Option (List Num))} {locked : List Int} {spare : Int} {Z : Store} (w : WOkk rows locked spare) (hZ : ∀ fs : List (Nat × W), wsD fs ≠ none → OkS (Z ++ [.ins 4 fs])) :
    callF Ir.P fu (n+4) 12 [.loc Z.length, .d (.tup (rows.map orowD)), .d (intsD locked), .d (.int spare)] (Z ++ [.ins 4 []]) = .ok (.d .non) (Z ++ [.ins 4 [(5, .d (.tup (rows.map orowD))), (4, .d (intsD locked)), (3, .d (.int spare))]]) := by
  have := hZ [] (by simp [wsD])
  have hlen := w.len
  have h5 := F5 (n := n+2) (S := Z ++ [.ins 4 []]) (xs := rows.map orowD) (a := 1) (b := 6)
  have e1 : decide ((1 : Int) ≤ (rows.map orowD).length) = true := by simp; have := w.r1; omega
  have e2 : decide (((rows.map orowD).length : Int) ≤ 6) = true := by simp; have := w.r6; omega
  rw [e1, e2] at h5
  have h6 := F6 (n := n) (S := Z ++ [.ins 4 []]) w.r6 w.lk w.inc
  have h3 := F3 (n := n+1) (S := Z ++ [.ins 4 []]) (i := spare) (a := 0) (b := 2)
  have e3 : decide ((0 : Int) ≤ spare) = true := by simp [w.s0]
  have e4 : decide (spare ≤ 2) = true := by simp [w.s2]
  rw [e3, e4] at h3
  obtain ⟨p, q, lp⟩ := F12_loop (n := n) (S := Z ++ [.ins 4 []]) rfl w.r6 (a := .loc Z.length) (c := .d (intsD locked)) (d := .d (.int spare)) (rs := rows.map orowD) (by simp) rows 0 none none w.row
  have hfin := hZ [(5, .d (.tup (rows.map orowD))), (4, .d (intsD locked)), (3, .d (.int spare))] (by simp [wsD])
  rw [run (fd := Ir.f12) rfl rfl]
  simp only [Ir.f12, startE]
  simp [getV, h5, truthy, show Ir.P.consts[1]? = some (.int 6) from rfl, show Ir.P.consts[2]? = some (.int 2) from rfl, evalI, seqOf, forSrc]
  simp at lp
  rw [lp]
  simp [getV, biD, seqOf, h6, h3, truthy, show Ir.P.consts[2]? = some (.int 2) from rfl, setFld, show ordC Ir.P 4 = true from rfl, putN]
  have := @fin_nx (Z ++ [.ins 4 [(5, .d (.tup (rows.map orowD))), (4, .d (intsD locked)), (3, .d (.int spare))]]) hfin
  simp at this
  exact this
/-- a new wish -/
theorem mkWish {rows : List (Option (List Num))} {locked : List Int} {spare : Int} {Z : Store} (w : WOkk rows locked spare) (hZ : ∀ fs : List (Nat × W), wsD fs ≠ none → OkS (Z ++ [.ins 4 fs])) (hb : belows Z.length Z = true) :
    mkW ⟨callF Ir.P fu (n+4), Ir.P, fu⟩ 4 [.d (.tup (rows.map orowD)), .d (intsD locked), .d (.int spare)] Z = .ok (.d (wishD rows locked spare)) Z := by
  unfold mkW
  have e : (⟨callF Ir.P fu (n+4), Ir.P, fu⟩ : Ctx).P.cls[4]? = some { name := "Wish", init := some 12, meths := [(0, 13)], frozen := true, sups := [4], exc := none } := rfl
  rw [e]
  simp [F12 w hZ, wsD, hb, wishD]
end P49
namespace P49
open RI
variable {n : Nat} {S : Store} [OkS S] {h : List D}
theorem F32_0 {m : Nat} (hm : m < 1000000000) (hc : WC [.str [99, 101, 108, 108, 115], .int m]) (hl : WL [.str [99, 101, 108, 108, 115], .int m]) :
    callF Ir.P fu (n+3) 32 [.d (.str (lineW [.str [99, 101, 108, 108, 115], .int m])), .d (.int 0)] S = .ok (.d (.int m)) S := by
  have h29 := F29 (n := n) (S := S) (w := [99, 101, 108, 108, 115]) (by decide) hm hc hl
  generalize lineW [.str [99, 101, 108, 108, 115], .int m] = lw at h29 ⊢
  rw [run (fd := Ir.f32) rfl rfl]
  simp [Ir.f32, startE, getV, truthy, cmpW, eqOwn, clsOf, cmpD, eqD, h29]
theorem F32_1 {m : Nat} (hm : m < 1000000000) (hc : WC [.str [115, 112, 97, 114, 101], .int m]) (hl : WL [.str [115, 112, 97, 114, 101], .int m]) :
    callF Ir.P fu (n+3) 32 [.d (.str (lineW [.str [115, 112, 97, 114, 101], .int m])), .d (.int 1)] S = .ok (.d (.int m)) S := by
  have h29 := F29 (n := n) (S := S) (w := [115, 112, 97, 114, 101]) (by decide) hm hc hl
  generalize lineW [.str [115, 112, 97, 114, 101], .int m] = lw at h29 ⊢
  rw [run (fd := Ir.f32) rfl rfl]
  simp [Ir.f32, startE, getV, truthy, cmpW, eqOwn, clsOf, cmpD, eqD, h29]
theorem F32_2 {locked : List Int} (hb : ∀ c ∈ locked, 0 ≤ c ∧ c < 6) (hn : locked.length ≤ 6) (hl : WL (.str [108, 111, 99, 107, 101, 100] :: locked.map .int)) (hc : WC (.str [108, 111, 99, 107, 101, 100] :: locked.map .int)) :
    callF Ir.P fu (n+7) 32 [.d (.str (lineW (.str [108, 111, 99, 107, 101, 100] :: locked.map .int))), .d (.int 2)] S = .ok (.d (intsD locked)) S := by
  have h30 := F30 (n := n) (S := S) hb hn hl hc
  generalize lineW (.str [108, 111, 99, 107, 101, 100] :: locked.map .int) = lw at h30 ⊢
  rw [run (fd := Ir.f32) rfl rfl]
  simp [Ir.f32, startE, getV, truthy, cmpW, eqOwn, clsOf, cmpD, eqD, h30]
abbrev body33 : ISs := (.cons (.asg (.nm 7) .non) (.cons (.ife (.cmp .lt (.var 5) (.int 3)) (.cons (.asg (.nm 7) (.call 32 (.cons (.var 6) (.cons (.var 5) .nil)))) (.cons (.expr (.bm (.var 1) .append (.cons (.var 7) .nil))) .nil)) (.cons (.ife (.cmp .lt (.bi .len (.cons (.var 2) .nil)) (.ix (.var 1) (.int 0))) (.cons (.asg (.nm 7) (.call 31 (.cons (.var 6) .nil))) (.cons (.expr (.bm (.var 2) .extend (.cons (.ifx (.isn true (.var 7)) (.var 7) (.lst .nil)) .nil))) .nil)) .nil) .nil)) (.cons (.expr (.call 28 (.cons (.var 7) (.cons (.bin .add (.var 5) (.int 1)) .nil)))) .nil)))
theorem F33_loop {k : Nat} {C : Ctx} (hC : C = ⟨callF Ir.P fu (n+7), Ir.P, fu⟩) (hk : k ≤ 6) {a d e : W} {sp : Int} {lk : D} : ∀ (xs : List (Option (List Num))) (j : Nat) (acc : List (Option (List Num))) (o1 o2 o3 : Option W), (∀ x ∈ xs, RowOk k x) → 3 ≤ j → acc.length + xs.length = k →
    ∃ o1' o2' o3', forFix (setT C (.tup (.cons (.nm 5) (.cons (.nm 6) .nil)))) (execSs C body33)
      ((xs.map fun o => D.str (lineW (rowW o))).mapIdx fun i x => .tup [.int ((j + i : Nat) : Int), x]) [some a, some (.loc 1), some (.loc 2), some d, some e, o1, o2, o3] [.lst h, .lst [.int k, .int sp, lk], .lst (acc.map orowD)]
      = .ok (.nx [some a, some (.loc 1), some (.loc 2), some d, some e, o1', o2', o3']) [.lst h, .lst [.int k, .int sp, lk], .lst ((acc ++ xs).map orowD)]
  | [], j, acc, o1, o2, o3, _, _, _ => ⟨o1, o2, o3, by simp [forFix]⟩
  | x :: xs, j, acc, o1, o2, o3, hx, hj, hn => by
    subst hC
    simp only [List.length_cons] at hn
    have hx0 := hx x (by simp)
    obtain ⟨p, q, r, ih⟩ := F33_loop rfl hk (a := a) (d := d) (e := e) (sp := sp) (lk := lk) xs (j + 1) (acc ++ [x]) (some (.d (.int j))) (some (.d (.str (lineW (rowW x))))) (some (.d (.lst [orowD x]))) (fun y hy => hx y (List.mem_cons_of_mem _ hy)) (by omega) (by simp; omega)
    refine ⟨p, q, r, ?_⟩
    rw [List.map_cons, List.mapIdx_cons, forFix]
    have em : ((xs.map fun o => D.str (lineW (rowW o))).mapIdx fun i x => D.tup [.int ((j + (i + 1) : Nat) : Int), x]) = (xs.map fun o => D.str (lineW (rowW o))).mapIdx fun i x => D.tup [.int ((j + 1 + i : Nat) : Int), x] := by
      congr 1
      funext i x
      rw [show j + (i + 1) = j + 1 + i by omega]
    rw [em]
    have c1 : ¬ ((j : Int) < 3) := by omega
    have c2 : (acc.length : Int) < k := by omega
    have c3 : acc.length + 1 ≤ line := Nat.le_trans (show _ ≤ 7 by omega) (by decide)
    have h31 := F31 (n := n+1) (S := [.lst h, .lst [.int k, .int sp, lk], .lst (acc.map orowD)]) hk hx0
    have h28 := F28 (n := n+6) (S := [.lst h, .lst [.int k, .int sp, lk], .lst ((acc ++ [x]).map orowD)]) (x := .lst [orowD x]) (i := (j : Int) + 1) (by simp)
    simp at h28
    generalize lineW (rowW x) = lw at h31 ih ⊢
    simp [seqOf, getV, truthy, cmpW, cmpD, intC, c1, c2, biD, ixD, L2.atI, L2.ixN, h31, recvOk, lstOf, bmD, c3, isLoc, binD, addD, h28]
    simpa using ih
theorem wsD_below (k : Nat) : ∀ fs : List (Nat × W), wsD fs ≠ none → (fs.all fun p => wBelow k p.2) = true
  | [], _ => rfl
  | (f, .d x) :: r, h => by
    have : wsD r ≠ none := by
      intro e
      simp [wsD, e] at h
    simpa [wBelow] using wsD_below k r this
  | (f, .loc l) :: r, h => by simp [wsD] at h
  | (f, .scr l) :: r, h => by simp [wsD] at h
  | (f, .exn l a) :: r, h => by simp [wsD] at h
theorem okIns {Z : Store} (hz : ∀ k, belows k Z = true) (fs : List (Nat × W)) (h : wsD fs ≠ none) : OkS (Z ++ [.ins 4 fs]) := ⟨by
  have h1 := hz (Z ++ [Cell.ins 4 fs]).length
  unfold belows at h1 ⊢
  rw [List.all_append, h1]
  simp only [List.all_cons, List.all_nil, cellBelow, Bool.and_true, Bool.true_and]
  exact wsD_below _ fs h⟩
theorem F33 {rows : List (Option (List Num))} {locked : List Int} {spare : Int} (w : WOkk rows locked spare) :
    callF Ir.P fu (n+8) 33 [.d (.str (textT (wishL rows locked spare)))] [.lst h] = .ok (.d (wishD rows locked spare)) [.lst h] := by
  have hlk6 : ∀ c ∈ locked, 0 ≤ c ∧ c < 6 := fun c hc => by have := w.lk c hc; have := w.r6; omega
  obtain ⟨w1, w2⟩ := wishL_ok (k := rows.length) w.r6 w.r6 w.row w.len hlk6 ⟨w.s0, w.s2⟩
  have wc := wishL_wc (rows := rows) (locked := locked) (spare := spare)
  have h26 := F26 (n := n+6) (S := [.lst h]) w1 w2 wc
  obtain ⟨sp, rfl⟩ := Int.eq_ofNat_of_zero_le w.s0
  have hs2 := w.s2
  have m0 : [.str [99, 101, 108, 108, 115], .int rows.length] ∈ wishL rows locked sp := by simp [wishL]
  have m1 : [.str [115, 112, 97, 114, 101], .int sp] ∈ wishL rows locked sp := by simp [wishL]
  have m2 : (.str [108, 111, 99, 107, 101, 100] :: locked.map .int) ∈ wishL rows locked sp := by simp [wishL]
  have a0 := F32_0 (n := n+4) (S := [.lst h, .lst [], .lst []]) (m := rows.length) (by have := w.r6; omega) (wc _ m0) (w2 _ m0)
  have a1 := F32_1 (n := n+4) (S := [.lst h, .lst [.int rows.length], .lst []]) (m := sp) (by omega) (wc _ m1) (w2 _ m1)
  have a2 := F32_2 (n := n) (S := [.lst h, .lst [.int rows.length, .int sp], .lst []]) hlk6 w.len (w2 _ m2) (wc _ m2)
  have b0 := F28 (n := n+6) (S := [.lst h, .lst [.int rows.length], .lst []]) (x := .int rows.length) (i := 1) (by simp)
  have b1 := F28 (n := n+6) (S := [.lst h, .lst [.int rows.length, .int sp], .lst []]) (x := .int sp) (i := 2) (by simp)
  have b2 := F28 (n := n+6) (S := [.lst h, .lst [.int rows.length, .int sp, intsD locked], .lst []]) (x := intsD locked) (i := 3) (by simp [intsD])
  have eW : (wishL rows locked sp).map (fun ws => D.str (lineW ws)) = .str (lineW [.str [99, 101, 108, 108, 115], .int rows.length]) :: .str (lineW [.str [115, 112, 97, 114, 101], .int sp]) :: .str (lineW (.str [108, 111, 99, 107, 101, 100] :: locked.map .int)) :: rows.map fun o => D.str (lineW (rowW o)) := by
    simp [wishL, List.map_map, Function.comp_def]
  rw [eW] at h26
  generalize hT : textT (wishL rows locked sp) = tx at h26 ⊢
  generalize lineW [.str [99, 101, 108, 108, 115], .int rows.length] = u0 at a0 h26 ⊢
  generalize lineW [.str [115, 112, 97, 114, 101], .int sp] = u1 at a1 h26 ⊢
  generalize lineW (.str [108, 111, 99, 107, 101, 100] :: locked.map .int) = u2 at a2 h26 ⊢
  obtain ⟨p, q, r, lp⟩ := F33_loop (n := n) (h := h) (k := rows.length) rfl w.r6 (a := .d (.str tx)) (d := .d (.lst (.str u0 :: .str u1 :: .str u2 :: rows.map fun o => D.str (lineW (rowW o))))) (e := .d (.str [])) (sp := sp) (lk := intsD locked) rows 3 [] (some (.d (.int 2))) (some (.d (.str u2))) (some (.d (intsD locked))) w.row (by omega) (by simp)
  have mk := mkWish (n := n+3) (Z := [.lst h, .lst [.int rows.length, .int sp, intsD locked], .lst (rows.map orowD)]) w (okIns fun _ => rfl) rfl
  have h27 := F27 (n := n+6) (S := [.lst h, .lst [.int rows.length, .int sp, intsD locked], .lst (rows.map orowD)]) (x := .lst (.str u0 :: .str u1 :: .str u2 :: rows.map fun o => D.str (lineW (rowW o))))
  have l3 : (3 : Nat) < line := by decide
  rw [run (fd := Ir.f33) rfl rfl]
  simp only [Ir.f33, startE]
  simp [getV, h26, seqOf, thawD, evalI, forSrc, forFix, List.mapIdx_cons, truthy, cmpW, cmpD, intC, a0, a1, a2, recvOk, lstOf, bmD, l0, l1, show (2 : Nat) < line by decide, binD, addD, b0, b1, b2]
  have em : ∀ ys : List D, ys.mapIdx (fun i x => D.tup [.int ((i : Int) + 1 + 1 + 1), x]) = ys.mapIdx fun i x => D.tup [.int ((3 + i : Nat) : Int), x] := by
    intro ys
    congr 1
    funext i x
    rw [show (i : Int) + 1 + 1 + 1 = ((3 + i : Nat) : Int) by omega]
  rw [em]
  simp only [List.map_nil, List.nil_append, body33] at lp
  rw [lp]
  simp [getV, h27, truthy, biD, seqOf, cmpW, cmpD, intC, ixD, L2.atI, L2.ixN, mk]
  simp [finish, close, belows, cellBelow, freeze, wishD]
end P49
namespace P49
open RI
variable {n : Nat} {S : Store} [OkS S] {h : List D}
abbrev Wr := Int × List Num
def wrD (w : Wr) : D := .tup [.int w.1, rowD w.2]
def progD (p : List Wr) : D := .tup (p.map wrD)
def wrL (w : Wr) : List D := .str [119, 114, 105, 116, 101] :: .int w.1 :: w.2.map fun m => .str (numTx m)
structure WrOk (k : Nat) (w : Wr) : Prop where
  c0 : 0 ≤ w.1
  c1 : w.1 < k
  len : w.2.length = k
  num : ∀ m ∈ w.2, NumOk m
theorem cs_ok : ∀ t : List Nat, (t.all fun c => decide (c ≠ 10) && decide (c ≠ 32) && decide (c < 0x110000)) = true → Cl t
  | [], _ => ⟨by simp, by simp, rfl⟩
  | c :: r, h => by
    simp only [List.all_cons, Bool.and_eq_true, decide_eq_true_eq] at h
    exact cl_cons h.1.1.1 h.1.1.2 h.1.2 (cs_ok r h.2)
theorem wrL_ok {k : Nat} (hk : k ≤ 8) {w : Wr} (hw : WrOk k w) : WL (wrL w) ∧ WC (wrL w) := by
  refine ⟨⟨by simp [wrL]; have := hw.len; omega, fun x hx => ?_⟩, ⟨by simp [wrL], fun x hx => ?_⟩⟩
  · simp only [wrL, List.mem_cons, List.mem_map] at hx
    rcases hx with rfl | rfl | ⟨m, hm, rfl⟩
    · exact .inl ⟨_, rfl, by decide⟩
    · have h1 := hw.c0; have h2 := hw.c1
      exact .inr ⟨_, rfl, by omega, by omega⟩
    · exact .inl ⟨_, rfl, Nat.le_trans (numTx_len (hw.num m hm)) (by decide)⟩
  · simp only [wrL, List.mem_cons, List.mem_map] at hx
    rcases hx with rfl | rfl | ⟨m, hm, rfl⟩
    · exact cs_ok _ (by decide)
    · exact cl_dec _
    · exact cl_num m
/-- a comprehension with two names over what stands for ws -/
theorem lc_nm2T {α : Type} {C : Ctx} {i j : Nat} {e : IE} {η : Env} {S : Store} (a b v : α → D) {ws : List α} (hl : ws.length ≤ line) (hi : i < η.length) (hj : j < η.length) (he : ∀ x ∈ ws, (evalP C e).1 ((η.set i (some (.d (a x)))).set j (some (.d (b x)))) S = .ok (.d (v x)) S) :
    lcSrc (setT C (.tup (.cons (.nm i) (.cons (.nm j) .nil)))) (evalC C .no) (evalP C e).1 η (.fix (ws.map fun x => .tup [a x, b x])) S = .ok (ws.map v) S := by
  have key : ∀ (xs : List α) (acc : List D), (∀ a ∈ xs, a ∈ ws) → acc.length + xs.length ≤ line → lcFix (setT C (.tup (.cons (.nm i) (.cons (.nm j) .nil)))) (evalC C .no) (evalP C e).1 η (xs.map fun x => .tup [a x, b x]) acc S = .ok (acc ++ xs.map v) S := by
    intro xs
    induction xs with
    | nil => intro acc _ _; simp [lcFix]
    | cons x r ih =>
      intro acc hm hlen
      simp only [List.length_cons] at hlen
      simp only [List.map_cons, lcFix, lcTurn]
      simp [hi, hj, ec_no, seqOf, he x (hm x (by simp)), show acc.length < line by omega]
      have := ih (acc ++ [v x]) (fun b hb => hm b (List.mem_cons_of_mem _ hb)) (by simp; omega)
      simp only [ec_no] at this
      rw [this]
      simp
  simpa [lcSrc] using key ws [] (fun _ h => h) (by simpa using hl)
theorem F47 {k : Nat} (hk : k ≤ 8) {p : List Wr} (hp : ∀ w ∈ p, WrOk k w) (hl : p.length ≤ 60) : callF Ir.P fu (n+2) 47 [.d (progD p)] S = .ok (.d (.str (textT (p.map wrL)))) S := by
  have hline : p.length ≤ line := Nat.le_trans hl (by decide)
  have key := lc_nm2T (C := ⟨callF Ir.P fu (n+1), Ir.P, fu⟩) (i := 1) (j := 2) (e := .bin .add (.lst (.cons (.str [119, 114, 105, 116, 101]) (.cons (.var 1) .nil))) (.lc (.call 44 (.cons (.var 3) .nil)) [3] (.nm 3) (.seq (.var 2)) .no)) (η := [some (.d (progD p)), none, none, none]) (S := S) (ws := p)
    (fun w => .int w.1) (fun w => rowD w.2) (fun w => .lst (wrL w)) hline (by simp) (by simp) (fun w hw => by
      have hw' := hp w hw
      have k2 := lc_nmT (C := ⟨callF Ir.P fu (n+1), Ir.P, fu⟩) (i := 3) (e := .call 44 (.cons (.var 3) .nil)) (η := [some (.d (progD p)), some (.d (.int w.1)), some (.d (rowD w.2)), none]) (S := S) (ws := w.2) numD (fun m => .str (numTx m)) (Nat.le_trans (show w.2.length ≤ 8 by rw [hw'.len]; exact hk) (by decide)) (by simp) (fun m hm => by
        simp [getV, F44 (hw'.num m hm)])
      have hq : 2 + w.2.length ≤ line := Nat.le_trans (show _ ≤ 10 by have := hw'.len; omega) (by decide)
      simp [getV, evalI, rowD, seqOf, wipeE]
      simp [rowD] at k2
      rw [k2]
      simp [binD, addD, lstOf, hq, wrL])
  have h45 := F45d (n := n) (S := S) (L := p.map wrL) (by simp; omega) (fun ws hws => by
    obtain ⟨w, hw, rfl⟩ := List.mem_map.mp hws
    exact (wrL_ok hk (hp w hw)).1)
  rw [run (fd := Ir.f47) rfl rfl]
  simp [Ir.f47, startE, getV, evalI, progD, seqOf, wipeE]
  simp [progD] at key
  rw [show (List.map wrD p) = p.map fun x => D.tup [.int x.1, rowD x.2] from rfl] at *
  rw [key]
  rw [show (p.map wrL).map D.lst = p.map fun w => D.lst (wrL w) from by simp [List.map_map, Function.comp_def]] at h45
  simp [h45]
theorem F25 {k : Nat} (hk : k ≤ 8) {p : List Wr} (hp : ∀ w ∈ p, WrOk k w) (hl : p.length ≤ 60) : callF Ir.P fu (n+3) 25 [.d (progD p)] S = .ok (.d (.str (textT (p.map wrL)))) S := by
  have hline : p.length ≤ line := Nat.le_trans hl (by decide)
  have key := lc_nm2T (C := ⟨callF Ir.P fu (n+2), Ir.P, fu⟩) (i := 1) (j := 2) (e := .bin .add (.bin .add (.bin .add (.str [119, 114, 105, 116, 101, 32]) (.bi .str (.cons (.var 1) .nil))) (.call 23 (.cons (.var 2) .nil))) (.str [10])) (η := [some (.d (progD p)), none, none]) (S := S) (ws := p)
    (fun w => .int w.1) (fun w => rowD w.2) (fun w => .str (lineT (wrL w))) hline (by simp) (by simp) (fun w hw => by
      have hw' := hp w hw
      have h1 := hw'.c0; have h2 := hw'.c1
      have l := log_ok (i := w.1) (by omega) (by omega)
      have b := decI_len (i := w.1) (by omega) (by omega)
      have hg := gapT_len 21 (ts := w.2.map numTx) (fun t ht => by
        obtain ⟨m, hm, rfl⟩ := List.mem_map.mp ht
        exact numTx_len (hw'.num m hm))
      simp only [List.length_map] at hg
      have hlw := hw'.len
      have f23 := F23 (n := n) (S := S) hw'.num (by omega)
      have q1 : 6 + (decI w.1).length ≤ line := Nat.le_trans (show _ ≤ 1000 by omega) (by decide)
      have q2 : (decI w.1).length + 6 + (gapT (w.2.map numTx)).length ≤ line := Nat.le_trans (show _ ≤ 1000 by omega) (by decide)
      have q3 : (decI w.1).length + (gapT (w.2.map numTx)).length + 6 + 1 ≤ line := Nat.le_trans (show _ ≤ 1000 by omega) (by decide)
      have q2' : (decI w.1).length + 1 + 1 + 1 + 1 + 1 + 1 + (gapT (w.2.map numTx)).length ≤ line := by omega
      have q3' : (decI w.1).length + (gapT (w.2.map numTx)).length + 1 + 1 + 1 + 1 + 1 + 1 + 1 ≤ line := by omega
      simp [getV, biD, l, f23, binD, addD, q1, q2']
      rw [if_pos (by omega)]
      simp [lineT, wrL, wt, join_gap, gapT, List.map_map, Function.comp_def])
  have ej := bm_join (S := S) (sep := []) (ts := (p.map wrL).map lineT) (textT_join (by simp; omega) (fun ws hws => by
    obtain ⟨w, hw, rfl⟩ := List.mem_map.mp hws
    exact (wrL_ok hk (hp w hw)).1))
  rw [joinL_nil, show ((p.map wrL).map lineT).map D.str = p.map fun w => D.str (lineT (wrL w)) from by simp [List.map_map, Function.comp_def]] at ej
  rw [run (fd := Ir.f25) rfl rfl]
  simp [Ir.f25, startE, getV, evalI, progD, recvOk, seqOf, wipeE]
  simp [progD] at key
  rw [show (List.map wrD p) = p.map fun x => D.tup [.int x.1, rowD x.2] from rfl] at *
  rw [key]
  simp only [Res.bind_ok, noExc_ok, es_nil', ej]
  simp [textT]
end P49
namespace P49
open RI
variable {n : Nat} {S : Store} [OkS S] {h : List D}
theorem F34 {k : Nat} (hk : k ≤ 8) {w : Wr} (hw : WrOk k w) : callF Ir.P fu (n+6) 34 [.d (.str (lineW (wrL w)))] S = .ok (.d (wrD w)) S := by
  obtain ⟨hl, hc⟩ := wrL_ok hk hw
  obtain ⟨c, r⟩ := w
  have h1 := hw.c0; have h2 := hw.c1; have h3 := hw.len; have h4 := hw.num
  simp only at h1 h2 h3 h4
  obtain ⟨m, rfl⟩ := Int.eq_ofNat_of_zero_le h1
  have hlen := lineW_len hl
  have ew : splitL 32 (lineW (wrL ((m : Int), r))) = [119, 114, 105, 116, 101] :: dg m :: r.map numTx := by
    rw [words_of hc]; simp [wrL, wt, List.map_map, Function.comp_def, decI_nat]
  have h19 := F19 (n := n+4) (S := S) (m := m) (by omega)
  have h22 := F22 (n := n) (S := S) (ws := r) (tx := numTx) (v := numD) (f := 21) (fd := Ir.f21) rfl rfl (fun m hm => F21 (h4 m hm)) (Nat.le_trans (show r.length ≤ 8 by omega) (by decide)) (fun _ _ => none_nums r) (.inr (none_nums r))
  have hq2 : pyEq (.str [119, 114, 105, 116, 101]) (.str [119, 114, 105, 116, 101]) = some true := by rw [pyEq_str (by decide) (by decide)]; simp
  have ec : cut (D.str [119, 114, 105, 116, 101] :: D.str (dg m) :: r.map fun m => D.str (numTx m)) (some 2) none = r.map fun m => D.str (numTx m) := cut_from (D.str [119, 114, 105, 116, 101] :: D.str (dg m) :: r.map fun m => D.str (numTx m)) 2
  have c2 : ¬ ((r.length : Int) + 1 + 1 < 2) := by omega
  have c0 : (0 : Int) < (r.length : Int) + 1 + 1 := by omega
  have c1 : (1 : Int) < (r.length : Int) + 1 + 1 := by omega
  generalize lineW (wrL ((m : Int), r)) = lw at hlen ew ⊢
  rw [run (fd := Ir.f34) rfl rfl]
  simp only [Ir.f34, startE]
  simp [getV, recvOk, bmD, hlen, ew]
  rw [show List.map (D.str ∘ numTx) r = r.map fun m => D.str (numTx m) from rfl]
  simp [seqOf, truthy, getV, cmpW, eqOwn, clsOf, cmpD, intC, biD, eqD, hq2, ixD, L2.atI, L2.ixN, slD, ec, h19, h22, setNs, wrD, rowD, c2, c0, c1]
theorem F15 {k : Nat} {rows : List (Option (List Num))} {locked : List Int} {spare : Int} (hk : (k : Int) = rows.length + spare) (hk8 : k ≤ 8) {w : Wr} (hw : WrOk k w) :
    callF Ir.P fu (n+4) 15 [.d (wishD rows locked spare), .d (wrD w)] S = .ok (.d (.bl true)) S := by
  have h14 := F14 (n := n+2) (S := S) (rs := rows.map orowD) (l := intsD locked) (sp := spare) (r := .non)
  simp only [List.length_map] at h14
  rw [← hk] at h14
  have h4 := F4 (n := n+2) (S := S) (xs := [.int w.1, rowD w.2]) rfl
  have h3 := F3 (n := n+1) (S := S) (i := w.1) (a := 0) (b := (k : Int) - 1)
  have e1 : decide (0 ≤ w.1) = true := by simp [hw.c0]
  have e2 : decide (w.1 ≤ (k : Int) - 1) = true := by have := hw.c1; simp; omega
  rw [e1, e2] at h3
  have h9 := F9 (n := n) (S := S) (r := w.2) (k := k) hw.num (by rw [hw.len]) (Nat.le_trans (show w.2.length ≤ 8 by rw [hw.len]; exact hk8) (by decide))
  rw [run (fd := Ir.f15) rfl rfl]
  simp [Ir.f15, startE, getV, wishD, wrD, h4, truthy, ixD, seqOf, L2.atI, L2.ixN, h14, binD, subD, h3, h9]
theorem F16 {k : Nat} {rows : List (Option (List Num))} {locked : List Int} {spare : Int} (hk : (k : Int) = rows.length + spare) (hk8 : k ≤ 8) {p : List Wr} (hp : ∀ w ∈ p, WrOk k w) (hl : p.length ≤ 60) :
    callF Ir.P fu (n+5) 16 [.d (wishD rows locked spare), .d (progD p)] S = .ok (.d (.bl true)) S := by
  have hline : p.length ≤ line := Nat.le_trans hl (by decide)
  have h5 := F5 (n := n+3) (S := S) (xs := p.map wrD) (a := 0) (b := 60)
  have e1 : decide ((0 : Int) ≤ (p.map wrD).length) = true := by simp
  have e2 : decide (((p.map wrD).length : Int) ≤ 60) = true := by simp; omega
  rw [e1, e2] at h5
  have key := lc_nmT (C := ⟨callF Ir.P fu (n+4), Ir.P, fu⟩) (i := 2) (e := .call 15 (.cons (.var 0) (.cons (.var 2) .nil))) (η := [some (.d (wishD rows locked spare)), some (.d (progD p)), none]) (S := S) (ws := p) wrD (fun _ => .bl true) hline (by simp) (fun w hw => by
    simp [getV, F15 hk hk8 (hp w hw)])
  rw [run (fd := Ir.f16) rfl rfl]
  simp [Ir.f16, startE, getV, progD, h5, truthy, show Ir.P.consts[3]? = some (.int 60) from rfl, evalI, seqOf, wipeE]
  simp [progD] at key
  rw [key]
  simp only [Res.bind_ok, noExc_ok, biD, lstOf, Option.bind_some, allB_true, Option.map_some, ofO_some]
  simp
theorem F17 {k : Nat} {rows : List (Option (List Num))} {locked : List Int} {spare : Int} (hk : (k : Int) = rows.length + spare) (hk8 : k ≤ 8) {p : List Wr} (hp : ∀ w ∈ p, WrOk k w) (hl : p.length ≤ 60) :
    callF Ir.P fu (n+6) 17 [.d (wishD rows locked spare), .d (progD p)] S = .ok (.d .non) S := by
  rw [run (fd := Ir.f17) rfl rfl]
  simp [Ir.f17, startE, getV, F16 hk hk8 hp hl, truthy]
abbrev body35 : ISs := (.cons (.expr (.bm (.var 2) .append (.cons (.call 34 (.cons (.var 6) .nil)) .nil))) (.cons (.expr (.call 28 (.cons (.ix (.var 2) (.neg (.int 1))) (.cons (.bin .add (.var 5) (.int 1)) .nil)))) .nil))
theorem F35_loop {k : Nat} {C : Ctx} (hC : C = ⟨callF Ir.P fu (n+6), Ir.P, fu⟩) (hk : k ≤ 8) {a b d e : W} : ∀ (xs : List Wr) (j : Nat) (acc : List Wr) (o1 o2 : Option W), (∀ x ∈ xs, WrOk k x) → acc.length + xs.length ≤ 60 →
    ∃ o1' o2', forFix (setT C (.tup (.cons (.nm 5) (.cons (.nm 6) .nil)))) (execSs C body35)
      ((xs.map fun w => D.str (lineW (wrL w))).mapIdx fun i x => .tup [.int ((j + i : Nat) : Int), x]) [some a, some b, some (.loc 1), some d, some e, o1, o2] [.lst h, .lst (acc.map wrD)]
      = .ok (.nx [some a, some b, some (.loc 1), some d, some e, o1', o2']) [.lst h, .lst ((acc ++ xs).map wrD)]
  | [], j, acc, o1, o2, _, _ => ⟨o1, o2, by simp [forFix]⟩
  | x :: xs, j, acc, o1, o2, hx, hn => by
    subst hC
    simp only [List.length_cons] at hn
    have hx0 := hx x (by simp)
    obtain ⟨p, q, ih⟩ := F35_loop rfl hk (a := a) (b := b) (d := d) (e := e) xs (j + 1) (acc ++ [x]) (some (.d (.int j))) (some (.d (.str (lineW (wrL x))))) (fun y hy => hx y (List.mem_cons_of_mem _ hy)) (by simp; omega)
    refine ⟨p, q, ?_⟩
    rw [List.map_cons, List.mapIdx_cons, forFix]
    have em : ((xs.map fun w => D.str (lineW (wrL w))).mapIdx fun i x => D.tup [.int ((j + (i + 1) : Nat) : Int), x]) = (xs.map fun w => D.str (lineW (wrL w))).mapIdx fun i x => D.tup [.int ((j + 1 + i : Nat) : Int), x] := by
      congr 1
      funext i x
      rw [show j + (i + 1) = j + 1 + i by omega]
    rw [em]
    have c3 : acc.length < line := Nat.lt_of_lt_of_le (show acc.length < 1000 by omega) (by decide)
    have h34 := F34 (n := n) (S := [.lst h, .lst (acc.map wrD)]) hk hx0
    have h28 := F28 (n := n+5) (S := [.lst h, .lst (acc.map wrD ++ [wrD x])]) (x := wrD x) (i := (j : Int) + 1) (by simp [wrD])
    have el : L2.atI (acc.map wrD ++ [wrD x]) (-1) = some (wrD x) := L2.atI_last _ _
    generalize lineW (wrL x) = lw at h34 ih ⊢
    simp [seqOf, getV, recvOk, lstOf, h34, bmD, c3, ixD, el, binD, addD, h28]
    simpa using ih
theorem F35 {k : Nat} {rows : List (Option (List Num))} {locked : List Int} {spare : Int} (hk : (k : Int) = rows.length + spare) (hk8 : k ≤ 8) {p : List Wr} (hp : ∀ w ∈ p, WrOk k w) (hl : p.length ≤ 60) :
    callF Ir.P fu (n+7) 35 [.d (wishD rows locked spare), .d (.str (textT (p.map wrL)))] [.lst h] = .ok (.d (progD p)) [.lst h] := by
  have w2 : ∀ ws ∈ p.map wrL, WL ws := fun ws hws => by
    obtain ⟨w, hw, rfl⟩ := List.mem_map.mp hws
    exact (wrL_ok hk8 (hp w hw)).1
  have w3 : ∀ ws ∈ p.map wrL, WC ws := fun ws hws => by
    obtain ⟨w, hw, rfl⟩ := List.mem_map.mp hws
    exact (wrL_ok hk8 (hp w hw)).2
  have h26 := F26 (n := n+5) (S := [.lst h]) (L := p.map wrL) (by simp; omega) w2 w3
  rw [List.map_map] at h26
  rw [show ((fun ws => D.str (lineW ws)) ∘ wrL) = fun w => D.str (lineW (wrL w)) from rfl] at h26
  generalize textT (p.map wrL) = tx at h26 ⊢
  obtain ⟨o1, o2, lp⟩ := F35_loop (n := n) (h := h) rfl hk8 (a := .d (wishD rows locked spare)) (b := .d (.str tx)) (d := .d (.lst (p.map fun w => D.str (lineW (wrL w))))) (e := .d (.str [])) p 0 [] none none hp (by simpa using hl)
  have h27 := F27 (n := n+5) (S := [.lst h, .lst (p.map wrD)]) (x := .lst (p.map fun w => D.str (lineW (wrL w))))
  have h17 := F17 (n := n) (S := [.lst h, .lst (p.map wrD)]) (locked := locked) hk hk8 hp hl
  rw [run (fd := Ir.f35) rfl rfl]
  simp only [Ir.f35, startE]
  simp [getV, h26, seqOf, thawD, evalI, forSrc]
  simp [body35] at lp
  rw [lp]
  simp [progD] at h17
  simp [getV, h27, biD, seqOf, h17]
  simp [finish, close, belows, cellBelow, freeze, progD]
end P49
namespace P49
open RI
variable {n : Nat} {S : Store} [OkS S] {h : List D}
inductive PD : Nat → D → Prop where
  | non {d} : PD d .non
  | int {d} (i : Int) : PD d (.int i)
  | str {d} (s : List Nat) : okS s = true → PD d (.str s)
  | tup {d} {xs : List D} : (∀ x ∈ xs, PD d x) → xs.length ≤ 1000 → PD (d + 1) (.tup xs)
  | lst {d} {xs : List D} : (∀ x ∈ xs, PD d x) → xs.length ≤ 1000 → PD (d + 1) (.lst xs)
theorem pyEq_bl (a b : Bool) : pyEq (.bl a) (.bl b) = some (a == b) := by
  cases a <;> cases b <;> decide
theorem zip_self (xs : List D) : ((xs.zip xs).map fun p => D.tup [p.1, p.2]) = xs.map fun x => D.tup [x, x] := by
  induction xs with
  | nil => rfl
  | cons x r ih => simp [ih]
theorem F38 : ∀ (d : Nat) (x : D), PD d x → ∀ n : Nat, callF Ir.P fu (n + d + 1) 38 [.d x, .d x] S = .ok (.d (.bl true)) S
  | d, .non, _, n => by
    rw [run (fd := Ir.f38) rfl rfl]
    simp [Ir.f38, startE, getV, tyName, tyOk0, tyIs, truthy]
  | d, .int i, _, n => by
    rw [run (fd := Ir.f38) rfl rfl]
    simp [Ir.f38, startE, getV, tyName, tyOk0, tyIs, truthy, cmpW, eqOwn, clsOf, cmpD, eqD, pyEq_bl]
  | d, .str s, hx, n => by
    cases hx with
    | str _ hs =>
      have hq : pyEq (.str s) (.str s) = some true := by rw [pyEq_str hs hs]; simp
      rw [run (fd := Ir.f38) rfl rfl]
      simp [Ir.f38, startE, getV, tyName, tyOk0, tyIs, truthy, cmpW, eqOwn, clsOf, cmpD, eqD, pyEq_bl, hq]
  | d + 1, .tup xs, hx, n => by
    cases hx with
    | tup hx hl =>
      have key := lc_nm2T (C := ⟨callF Ir.P fu (n + d + 1), Ir.P, fu⟩) (i := 2) (j := 3) (e := .call 38 (.cons (.var 2) (.cons (.var 3) .nil))) (η := [some (.d (.tup xs)), some (.d (.tup xs)), none, none]) (S := S) (ws := xs) (fun x => x) (fun x => x) (fun _ => .bl true) (Nat.le_trans hl (by decide)) (by simp) (by simp) (fun x hx' => by
        simp [getV, F38 d x (hx x hx') n])
      rw [show n + (d + 1) + 1 = (n + d + 1) + 1 by omega, run (fd := Ir.f38) rfl rfl]
      simp [Ir.f38, startE, getV, tyName, tyOk0, tyIs, truthy, cmpW, eqOwn, clsOf, cmpD, eqD, pyEq_bl, biD, seqOf, evalI, wipeE]
      rw [zip_self, key]
      simp only [Res.bind_ok, noExc_ok, biD, lstOf, Option.bind_some, allB_true, Option.map_some, ofO_some]
      simp
  | d + 1, .lst xs, hx, n => by
    cases hx with
    | lst hx hl =>
      have key := lc_nm2T (C := ⟨callF Ir.P fu (n + d + 1), Ir.P, fu⟩) (i := 2) (j := 3) (e := .call 38 (.cons (.var 2) (.cons (.var 3) .nil))) (η := [some (.d (.lst xs)), some (.d (.lst xs)), none, none]) (S := S) (ws := xs) (fun x => x) (fun x => x) (fun _ => .bl true) (Nat.le_trans hl (by decide)) (by simp) (by simp) (fun x hx' => by
        simp [getV, F38 d x (hx x hx') n])
      rw [show n + (d + 1) + 1 = (n + d + 1) + 1 by omega, run (fd := Ir.f38) rfl rfl]
      simp [Ir.f38, startE, getV, tyName, tyOk0, tyIs, truthy, cmpW, eqOwn, clsOf, cmpD, eqD, pyEq_bl, biD, seqOf, evalI, wipeE]
      rw [zip_self, key]
      simp only [Res.bind_ok, noExc_ok, biD, lstOf, Option.bind_some, allB_true, Option.map_some, ofO_some]
      simp
theorem pd_num {d : Nat} (m : Num) : PD (d + 1) (numD m) := .tup (fun x hx => by
  simp at hx
  rcases hx with rfl | rfl
  · exact .int _
  · exact .int _) (by simp)
theorem pd_row {d : Nat} (r : List Num) (hl : r.length ≤ 1000) : PD (d + 2) (rowD r) := .tup (fun x hx => by
  obtain ⟨m, _, rfl⟩ := List.mem_map.mp hx
  exact pd_num m) (by simpa using hl)
theorem pd_orow {d : Nat} {k : Nat} (hk : k ≤ 6) (o : Option (List Num)) (ho : RowOk k o) : PD (d + 2) (orowD o) := by
  cases o with
  | none => exact .non
  | some r => exact pd_row r (by have := ho.1; omega)
theorem pd_prog {k : Nat} (hk : k ≤ 8) {p : List Wr} (hp : ∀ w ∈ p, WrOk k w) (hl : p.length ≤ 60) : PD 4 (progD p) := .tup (fun x hx => by
  obtain ⟨w, hw, rfl⟩ := List.mem_map.mp hx
  refine .tup (fun y hy => ?_) (by simp)
  simp at hy
  rcases hy with rfl | rfl
  · exact .int _
  · exact pd_row _ (by have := (hp w hw).len; omega)) (by simp; omega)
/-! ### == of what is the same -/
theorem pyEq_self {x : D} {p : PySem.PyData} (e : toPD x = some p) (hs : PySem.SeqAt.shaped p = true) : pyEq x x = some true := by
  unfold pyEq
  rw [e]
  dsimp only
  rw [hs]
  simp [PySem.SeqAt.eqv_refl p (PySem.SeqAt.canLay_of_shaped hs)]
def orowP : Option (List Num) → PySem.PyData
  | none => .none
  | some r => .tuple (r.map numP)
theorem orowP_ok (o : Option (List Num)) : toPD (orowD o) = some (orowP o) ∧ (orowP o).canLay0 = true ∧ (orowP o).depth ≤ 3 := by
  cases o with
  | none => exact ⟨rfl, rfl, by simp [orowP, PySem.PyData.depth]⟩
  | some r =>
    have e := toPDs_map numD numP r fun a _ => (numP_ok a).1
    have e2 := all_lay numP r fun a _ => (numP_ok a).2.1
    have e3 := all_depth (d := 2) numP r fun a _ => (numP_ok a).2.2
    refine ⟨by simp [orowD, rowD, toPD, e, orowP], by simp [orowP, PySem.PyData.canLay0, e2], by simp [orowP, PySem.PyData.depth]; omega⟩
theorem eq_rows (rows : List (Option (List Num))) : pyEq (.tup (rows.map orowD)) (.tup (rows.map orowD)) = some true := by
  have e := toPDs_map orowD orowP rows fun a _ => (orowP_ok a).1
  have e2 := all_lay orowP rows fun a _ => (orowP_ok a).2.1
  have e3 := all_depth (d := 3) orowP rows fun a _ => (orowP_ok a).2.2
  refine pyEq_self (p := .tuple (rows.map orowP)) (by simp [toPD, e]) ?_
  have : PySem.PyData.depthAll (rows.map orowP) + 1 ≤ 64 := by omega
  unfold PySem.SeqAt.shaped
  simp [PySem.PyData.canLay0, PySem.PyData.depth, e2]
  omega
theorem eq_ints (xs : List Int) : pyEq (intsD xs) (intsD xs) = some true := by
  have e := toPDs_map D.int PySem.PyData.int xs fun a _ => rfl
  have e2 := all_lay PySem.PyData.int xs fun a _ => rfl
  have e3 := all_depth (d := 0) PySem.PyData.int xs fun a _ => by simp [PySem.PyData.depth]
  refine pyEq_self (p := .tuple (xs.map .int)) (by simp [intsD, toPD, e]) ?_
  unfold PySem.SeqAt.shaped
  simp [PySem.PyData.canLay0, PySem.PyData.depth, e2]
  omega
theorem F13 {rows : List (Option (List Num))} {locked : List Int} {spare : Int} : callF Ir.P fu (n+1) 13 [.d (wishD rows locked spare), .d (wishD rows locked spare)] S = .ok (.d (.bl true)) S := by
  have e1 := eq_rows rows
  have e2 := eq_ints locked
  simp [intsD] at e2
  rw [run (fd := Ir.f13) rfl rfl]
  simp [Ir.f13, startE, getV, wishD, tyName, tyOk0, tyIs, show ordC Ir.P 4 = true from rfl, show Ir.P.cls[4]? = some { name := "Wish", init := some 12, meths := [(0, 13)], frozen := true, sups := [4], exc := none } from rfl, truthy, fldD, lookN, cmpW, eqOwn, clsOf, cmpD, eqD, e1, e2, intsD]
end P49
namespace P49
open RI
variable {n : Nat} {S : Store} [OkS S] {h : List D}
class OkT (T : Store) : Prop where
  b : ∀ k, belows k T = true
instance : OkT [] := ⟨fun _ => rfl⟩
instance {a : List D} : OkT [.lst a] := ⟨fun _ => rfl⟩
instance {h : List D} {T : Store} [OkT T] : OkS (.lst h :: T) := ⟨by
  have := OkT.b (T := T) (Cell.lst h :: T).length
  unfold belows at this ⊢
  simp only [List.all_cons, cellBelow, Bool.true_and]
  exact this⟩
structure HOk (N : Nat) (h : List D) : Prop where
  ex : ∃ (cells : List Int) (pos digits seed count : Int), h = [.lst (cells.map .int), .int pos, .int digits, .int seed, .int count] ∧ (∀ c ∈ cells, 0 ≤ c) ∧ 0 ≤ pos ∧ 0 ≤ digits ∧ 0 ≤ seed ∧ seed < 2147483648 ∧ 0 ≤ count ∧ count ≤ N
theorem bits_of {i j : Int} (hi : i.natAbs < 2 ^ 64) (hj : j.natAbs < 2 ^ 64) : bitsOk i j = true := by
  have l : ∀ k : Int, k.natAbs < 2 ^ 64 → k.natAbs.log2 ≤ 64 := fun k hk => by
    by_cases e : k.natAbs = 0
    · rw [e]; decide
    · have := (Nat.log2_lt e).mpr hk; omega
  unfold bitsOk
  rw [decide_eq_true_iff]
  have := l i hi
  have := l j hj
  omega
theorem fm0 (a : Int) {b : Int} (hb : 0 < b) : 0 ≤ a.fmod b ∧ a.fmod b < b := ⟨Int.fmod_nonneg_of_pos a hb, Int.fmod_lt_of_pos a hb⟩
/-- the number behind the mixing -/
def mix1 (seed count : Int) : Int := ((seed + 7919 * count) * 48271).fmod 2147483647
def mix2 (x : Int) : Int := (x * (x.fdiv 1009 + 69621)).fmod 2147483647
def mix3 (x : Int) : Int := (x * (x.fdiv 2003 + 40692)).fmod 2147483399
theorem fd_le {x b : Int} (hx : 0 ≤ x) (hb : 0 < b) : 0 ≤ x.fdiv b ∧ x.fdiv b ≤ x := by
  rw [Int.fdiv_eq_ediv_of_nonneg _ (Int.le_of_lt hb)]
  exact ⟨Int.ediv_nonneg hx (Int.le_of_lt hb), Int.ediv_le_self _ hx⟩
def hd (cells : List Int) (pos dig seed cnt : Int) : List D := [.lst (cells.map .int), .int pos, .int dig, .int seed, .int cnt]
abbrev dr1 : IS := (.ife (.and (.cons (.cmp .eq (.ix (.var 0) (.int 2)) (.int 0)) (.cons (.cmp .lt (.ix (.var 0) (.int 1)) (.bi .len (.cons (.ix (.var 0) (.int 0)) .nil))) .nil))) (.cons (.asg (.nm 3) (.ix (.ix (.var 0) (.int 0)) (.ix (.var 0) (.int 1)))) (.cons (.asg (.sub (.var 0) (.int 1)) (.bin .add (.ix (.var 0) (.int 1)) (.int 1))) (.cons (.asg (.sub (.var 0) (.int 3)) (.bin .mod (.bi .int (.cons (.bin .add (.bin .add (.bin .mul (.ix (.var 0) (.int 3)) (.int 69621)) (.var 3)) (.int 11)) .nil)) (.int 2147483629))) (.cons (.ife (.cmp .ge (.var 3) (.bin .pow (.int 10) (.int 18))) (.cons (.asg (.sub (.var 0) (.int 2)) (.var 3)) .nil) .nil) .nil)))) .nil)
abbrev dr2 : IS := (.ife (.cmp .gt (.ix (.var 0) (.int 2)) (.int 0)) (.cons (.asg (.nm 4) (.bin .mod (.bi .int (.cons (.ix (.var 0) (.int 2)) .nil)) (.var 1))) (.cons (.asg (.sub (.var 0) (.int 2)) (.bin .fdiv (.ix (.var 0) (.int 2)) (.var 1))) (.cons (.ret (.var 4)) .nil))) .nil)
abbrev dr3 : ISs := (.cons (.asg (.sub (.var 0) (.int 4)) (.bin .add (.ix (.var 0) (.int 4)) (.int 1))) (.cons (.asg (.nm 2) (.bin .mod (.bi .int (.cons (.bin .mul (.bi .int (.cons (.bin .add (.ix (.var 0) (.int 3)) (.bin .mul (.int 7919) (.ix (.var 0) (.int 4)))) .nil)) (.int 48271)) .nil)) (.int 2147483647))) (.cons (.asg (.nm 2) (.bin .mod (.bi .int (.cons (.bin .mul (.var 2) (.bin .add (.bin .fdiv (.var 2) (.int 1009)) (.int 69621))) .nil)) (.int 2147483647))) (.cons (.asg (.nm 2) (.bin .mod (.bi .int (.cons (.bin .mul (.var 2) (.bin .add (.bin .fdiv (.var 2) (.int 2003)) (.int 40692))) .nil)) (.int 2147483399))) (.cons (.ret (.bin .mod (.bi .int (.cons (.bin .fdiv (.var 2) (.int 16)) .nil)) (.var 1))) .nil)))))
theorem f37_body : Ir.f37.body = .cons dr1 (.cons dr2 dr3) := rfl
section
variable {T : Store} [OkT T] {C : Ctx}
theorem draw1 {cells : List Int} {pos dig seed cnt : Int} {m : W} (hc : ∀ c ∈ cells, 0 ≤ c) (hp : 0 ≤ pos) (hdg : 0 ≤ dig) (hs : 0 ≤ seed) (hs2 : seed < 2147483648) :
    ∃ pos' dig' seed' o, execS C dr1 [some (.loc 0), some m, none, none, none] (.lst (hd cells pos dig seed cnt) :: T) = .ok (.nx [some (.loc 0), some m, none, o, none]) (.lst (hd cells pos' dig' seed' cnt) :: T) ∧ 0 ≤ pos' ∧ 0 ≤ dig' ∧ 0 ≤ seed' ∧ seed' < 2147483648 := by
  by_cases h1 : dig = 0
  · by_cases h2 : pos < cells.length
    · obtain ⟨j, rfl⟩ := Int.eq_ofNat_of_zero_le hp
      have hj : j < cells.length := by omega
      have hcj := hc cells[j] (List.getElem_mem hj)
      have b1 : bitsOk seed 69621 = true := bits_of (by omega) (by decide)
      have f1 := fm0 (seed * 69621 + cells[j] + 11) (b := 2147483629) (by decide)
      have eix : (cells.map D.int)[j]? = some (.int cells[j]) := by simp [hj]
      by_cases h3 : (1000000000000000000 : Int) ≤ cells[j]
      · refine ⟨(j : Int) + 1, cells[j], _, some (.d (.int cells[j])), ?_, by omega, hcj, f1.1, by omega⟩
        subst h1
        simp [dr1, hd, getV, ixD, L2.atI, L2.ixN, truthy, cmpW, eqOwn, clsOf, eqD, cmpD, intC, biD, seqOf, h2, hj, setSub, binD, addD, mulD, modD, powD, b1, h3]
      · refine ⟨(j : Int) + 1, 0, _, some (.d (.int cells[j])), ?_, by omega, by omega, f1.1, by omega⟩
        subst h1
        simp [dr1, hd, getV, ixD, L2.atI, L2.ixN, truthy, cmpW, eqOwn, clsOf, eqD, cmpD, intC, biD, seqOf, h2, hj, setSub, binD, addD, mulD, modD, powD, b1, h3]
    · refine ⟨pos, 0, seed, none, ?_, hp, by omega, hs, hs2⟩
      subst h1
      simp [dr1, hd, getV, ixD, L2.atI, L2.ixN, truthy, cmpW, eqOwn, clsOf, eqD, cmpD, intC, biD, seqOf, h2]
  · refine ⟨pos, dig, seed, none, ?_, hp, hdg, hs, hs2⟩
    simp [dr1, hd, getV, ixD, L2.atI, L2.ixN, truthy, cmpW, eqOwn, clsOf, eqD, cmpD, intC, biD, seqOf, h1]
theorem fd_ok {m : Int} (h1 : 0 < m) (h2 : m < 18446744073709551616) : (0 < m ∧ m.natAbs.log2 < 9000) = True := by
  have : m.natAbs.log2 < 9000 := by
    rw [Nat.log2_lt (by omega)]
    exact Nat.lt_of_lt_of_le (show m.natAbs < 2 ^ 64 by omega) (Nat.pow_le_pow_right (by decide) (by decide))
  simp [h1, this]
theorem F37 {N : Nat} {h : List D} {m : Int} (hN : N < 1000000000) (hh : HOk N h) (hm : 0 < m) (hm2 : m < 18446744073709551616) :
    ∃ (r : Int) (h' : List D), callF Ir.P fu (n+1) 37 [.loc 0, .d (.int m)] (.lst h :: T) = .ok (.d (.int r)) (.lst h' :: T) ∧ 0 ≤ r ∧ r < m ∧ HOk (N+1) h' := by
  obtain ⟨cells, pos, dig, seed, cnt, rfl, hc, hp, hdg, hs, hs2, hc0, hcN⟩ := hh.ex
  have hfd := fd_ok hm hm2
  have hm0 : ¬ m = 0 := by omega
  obtain ⟨pos', dig', seed', o, e1, p1, p2, p3, p4⟩ := draw1 (T := T) (C := ⟨callF Ir.P fu n, Ir.P, fu⟩) (cells := cells) (pos := pos) (dig := dig) (seed := seed) (cnt := cnt) (m := .d (.int m)) hc hp hdg hs hs2
  have hfin : ∀ (r : Int) (h' : List D), finish false (T.length + 1) (.ok (.ret (.d (.int r))) (.lst h' :: T)) = .ok (.d (.int r)) (.lst h' :: T) := fun r h' => fin_ret (S := .lst h' :: T)
  by_cases hd0 : 0 < dig'
  · have f1 := fm0 dig' hm
    have f2 := fd_le p2 hm
    refine ⟨dig'.fmod m, hd cells pos' (dig'.fdiv m) seed' cnt, ?_, f1.1, f1.2, ⟨⟨cells, pos', dig'.fdiv m, seed', cnt, rfl, hc, p1, f2.1, p3, p4, hc0, by omega⟩⟩⟩
    rw [run (fd := Ir.f37) rfl rfl, f37_body]
    simp only [startE, ss_cons']
    have e1' := e1
    simp only [hd] at e1'
    rw [show (List.map some [W.loc 0, W.d (D.int m)] ++ List.replicate (Ir.f37.N.length - [W.loc 0, W.d (D.int m)].length) none) = [some (W.loc 0), some (W.d (.int m)), none, none, none] from rfl, e1']
    simp [dr2, hd, getV, ixD, L2.atI, L2.ixN, truthy, cmpW, cmpD, intC, hd0, biD, binD, modD, fdivD, hm0, hfd, setSub, Ir.f37, hfin]
  · have hdz : dig' = 0 := by omega
    subst hdz
    have b0 : bitsOk 7919 (cnt + 1) = true := bits_of (by decide) (by omega)
    have g1 : 0 ≤ seed' + 7919 * (cnt + 1) ∧ seed' + 7919 * (cnt + 1) < 2 ^ 60 := by omega
    have b1 : bitsOk (seed' + 7919 * (cnt + 1)) 48271 = true := bits_of (by omega) (by decide)
    have f1 := fm0 ((seed' + 7919 * (cnt + 1)) * 48271) (b := 2147483647) (by decide)
    generalize ex : ((seed' + 7919 * (cnt + 1)) * 48271).fmod 2147483647 = x at f1
    have d1 := fd_le f1.1 (b := 1009) (by decide)
    have b2 : bitsOk x (x.fdiv 1009 + 69621) = true := bits_of (by omega) (by omega)
    have f2 := fm0 (x * (x.fdiv 1009 + 69621)) (b := 2147483647) (by decide)
    generalize ey : (x * (x.fdiv 1009 + 69621)).fmod 2147483647 = y at f2
    have d2 := fd_le f2.1 (b := 2003) (by decide)
    have b3 : bitsOk y (y.fdiv 2003 + 40692) = true := bits_of (by omega) (by omega)
    have f3 := fm0 (y * (y.fdiv 2003 + 40692)) (b := 2147483399) (by decide)
    generalize ez : (y * (y.fdiv 2003 + 40692)).fmod 2147483399 = z at f3
    have f4 := fm0 (z.fdiv 16) hm
    have q1 := fd_ok (m := 1009) (by decide) (by decide)
    have q2 := fd_ok (m := 2003) (by decide) (by decide)
    have q3 := fd_ok (m := 16) (by decide) (by decide)
    refine ⟨(z.fdiv 16).fmod m, hd cells pos' 0 seed' (cnt + 1), ?_, f4.1, f4.2, ⟨⟨cells, pos', 0, seed', cnt + 1, rfl, hc, p1, by omega, p3, p4, by omega, by omega⟩⟩⟩
    rw [run (fd := Ir.f37) rfl rfl, f37_body]
    simp only [startE, ss_cons']
    have e1' := e1
    simp only [hd] at e1'
    rw [show (List.map some [W.loc 0, W.d (D.int m)] ++ List.replicate (Ir.f37.N.length - [W.loc 0, W.d (D.int m)].length) none) = [some (W.loc 0), some (W.d (.int m)), none, none, none] from rfl, e1']
    simp [dr2, dr3, hd, getV, ixD, L2.atI, L2.ixN, truthy, cmpW, cmpD, intC, biD, binD, addD, mulD, modD, fdivD, hm0, setSub, Ir.f37, b0, b1, ex, b2, ey, b3, ez]
    exact hfin _ _
end
end P49
namespace P49
open RI
variable {n : Nat}
section
variable {S : Store} [OkS S]
theorem gcd_loop2 {C : Ctx} (S : Store) : ∀ (fu a b : Nat), b < fu → whileL (evalP C (.cmp .gt (.var 1) (.int 0))).2 (execSs C (.cons (.par [0, 1] (.cons (.var 1) (.cons (.bin .mod (.bi .int (.cons (.var 0) .nil)) (.var 1)) .nil))) .nil)) fu [some (.d (.int a)), some (.d (.int b))] S
    = .ok (.nx [some (.d (.int (Nat.gcd a b))), some (.d (.int 0))]) S := by
  intro fu
  induction fu with
  | zero => intro a b h; omega
  | succ m ih =>
    intro a b h
    unfold whileL
    by_cases hb : b = 0
    · subst hb
      simp [getV, cmpW, cmpD, intC, truthy]
    · have em : Int.fmod (a : Int) (b : Int) = ((a % b : Nat) : Int) := by
        rw [Int.fmod_eq_emod_of_nonneg _ (by omega)]
        exact (Int.natCast_emod a b).symm
      have hb' : 0 < b := Nat.pos_of_ne_zero hb
      simp [getV, cmpW, cmpD, intC, truthy, hb, hb', binD, modD, setNs, biD]
      rw [em, ih b (a % b) (by have := Nat.mod_lt a hb'; omega)]
      rw [Nat.gcd_comm a b, Nat.gcd_rec b a]
      simp [Nat.gcd_comm]
theorem F39 {a b : Nat} (hb : b < fu) : callF Ir.P fu (n+1) 39 [.d (.int a), .d (.int b)] S = .ok (.d (.int (Nat.gcd a b))) S := by
  rw [run (fd := Ir.f39) rfl rfl]
  simp only [Ir.f39, startE, List.map, List.length, ss_cons', x_whl]
  simp
  rw [gcd_loop2 _ _ _ _ hb]
  simp [getV]
theorem low_ok {t b : Int} (ht1 : -1000000000 < t) (ht2 : t < 1000000000) (hb1 : 1 ≤ b) (hb2 : b < 1000000000) : NumOk (t / Int.gcd t b, b / Int.gcd t b) := by
  have hg : 0 < Int.gcd t b := Int.gcd_pos_of_ne_zero_right _ (by omega)
  have hg' : (0 : Int) < Int.gcd t b := by omega
  have hd : (Int.gcd t b : Int) ∣ b := Int.gcd_dvd_right ..
  have hd2 : (Int.gcd t b : Int) ∣ t := Int.gcd_dvd_left ..
  obtain ⟨q, hq⟩ := hd
  obtain ⟨p, hp⟩ := hd2
  have e1 : b / Int.gcd t b = q := by
    conv => lhs; lhs; rw [hq]
    exact Int.mul_ediv_cancel_left _ (by omega)
  have e2 : t / Int.gcd t b = p := by
    conv => lhs; lhs; rw [hp]
    exact Int.mul_ediv_cancel_left _ (by omega)
  have hq0 : 0 < q := by
    rcases Int.lt_or_le 0 q with h | h
    · exact h
    · have := Int.mul_nonpos_of_nonneg_of_nonpos (Int.le_of_lt hg') h
      omega
  have hg1 : (1 : Int) ≤ Int.gcd t b := by omega
  have hqb : q ≤ b := by
    have := Int.mul_le_mul_of_nonneg_right hg1 (Int.le_of_lt hq0)
    omega
  have hpt : p.natAbs ≤ t.natAbs := by
    have : t.natAbs = Int.gcd t b * p.natAbs := by
      conv => lhs; rw [hp]
      rw [Int.natAbs_mul]; rfl
    rw [this]
    exact Nat.le_mul_of_pos_left _ hg
  refine ⟨by rw [e1]; omega, by rw [e1]; omega, by rw [e2]; omega, by rw [e2]; omega, ?_⟩
  exact Int.gcd_ediv_gcd_ediv_gcd hg
theorem F40 {t b : Int} (ht1 : -1000000000 < t) (ht2 : t < 1000000000) (hb1 : 1 ≤ b) (hb2 : b < 1000000000) :
    callF Ir.P fu (n+2) 40 [.d (.int t), .d (.int b)] S = .ok (.d (numD (t / Int.gcd t b, b / Int.gcd t b))) S := by
  have hg : 0 < Int.gcd t b := Int.gcd_pos_of_ne_zero_right _ (by omega)
  have hgl : Int.gcd t b ≤ b.natAbs := Nat.le_of_dvd (by omega) (Nat.gcd_dvd_right _ _)
  have hfd := fd_ok (m := Int.gcd t b) (by omega) (by omega)
  have ha : (if t < 0 then -t else t) = ((t.natAbs : Nat) : Int) := by split <;> omega
  obtain ⟨c, rfl⟩ := Int.eq_ofNat_of_zero_le (show (0 : Int) ≤ b by omega)
  have h39 := F39 (n := n) (S := S) (a := t.natAbs) (b := c) (by show c < 10000000000; omega)
  have eg : Nat.gcd t.natAbs c = Int.gcd t c := rfl
  rw [eg] at h39
  have e1 : t.fdiv (Int.gcd t c) = t / Int.gcd t c := Int.fdiv_eq_ediv_of_nonneg _ (by omega)
  have e2 : (c : Int).fdiv (Int.gcd t c) = c / Int.gcd t c := Int.fdiv_eq_ediv_of_nonneg _ (by omega)
  rw [run (fd := Ir.f40) rfl rfl]
  simp [Ir.f40, startE, getV, biD]
  rw [ha, h39]
  simp [getV, binD, fdivD]
  simp at hfd
  simp [hfd, e1, e2, numD]
end
section
variable {T : Store} [OkT T]
theorem F41 {N : Nat} {h : List D} (hN : N < 900000000) (hh : HOk N h) : ∃ (m : Num) (h' : List D), callF Ir.P fu (n+3) 41 [.loc 0, .d (.bl true)] (.lst h :: T) = .ok (.d (numD m)) (.lst h' :: T) ∧ NumOk m ∧ HOk (N+3) h' := by
  have up : ∀ {a b : Nat} {h : List D}, HOk a h → a ≤ b → HOk b h := fun hh hab => by
    obtain ⟨cells, pos, dig, seed, cnt, e, a1, a2, a3, a4, a5, a6, a7⟩ := hh.ex
    exact ⟨⟨cells, pos, dig, seed, cnt, e, a1, a2, a3, a4, a5, a6, by omega⟩⟩
  obtain ⟨r, h1, e1, r0, r1, k1⟩ := F37 (n := n+1) (T := T) (m := 9) (by omega) hh (by decide) (by decide)
  have fin : ∀ (x : D) (h' : List D), finish false (T.length + 1) (.ok (.ret (.d x)) (.lst h' :: T)) = .ok (.d x) (.lst h' :: T) := fun x h' => fin_ret (S := .lst h' :: T)
  by_cases c0 : r = 0
  · subst c0
    obtain ⟨a, h2, e2, a0, a1, k2⟩ := F37 (n := n+1) (T := T) (m := 19) (by omega) k1 (by decide) (by decide)
    obtain ⟨b, h3, e3, b0, b1, k3⟩ := F37 (n := n+1) (T := T) (m := 9) (by omega) k2 (by decide) (by decide)
    have e4 := F40 (n := n) (S := .lst h3 :: T) (t := a - 9) (b := 1 + b) (by omega) (by omega) (by omega) (by omega)
    refine ⟨_, h3, ?_, low_ok (t := a - 9) (b := 1 + b) (by omega) (by omega) (by omega) (by omega), k3⟩
    rw [run (fd := Ir.f41) rfl rfl]
    simp [Ir.f41, startE, getV, e1, cmpW, eqOwn, clsOf, eqD, cmpD, truthy, e2, e3, binD, subD, addD, e4, fin]
  · by_cases c1 : r = 1
    · subst c1
      obtain ⟨a, h2, e2, a0, a1, k2⟩ := F37 (n := n+1) (T := T) (m := 1999999999) (by omega) k1 (by decide) (by decide)
      obtain ⟨b, h3, e3, b0, b1, k3⟩ := F37 (n := n+1) (T := T) (m := 999999999) (by omega) k2 (by decide) (by decide)
      have e4 := F40 (n := n) (S := .lst h3 :: T) (t := a - 1000000000 + 1) (b := 1 + b) (by omega) (by omega) (by omega) (by omega)
      have bb : bitsOk 2 1000000000 = true := bits_of (by decide) (by decide)
      refine ⟨_, h3, ?_, low_ok (t := a - 1000000000 + 1) (b := 1 + b) (by omega) (by omega) (by omega) (by omega), k3⟩
      rw [run (fd := Ir.f41) rfl rfl]
      simp [Ir.f41, startE, getV, e1, cmpW, eqOwn, clsOf, eqD, cmpD, truthy, binD, mulD, powD, bb, subD, addD, e2, e3, e4, fin]
    · obtain ⟨a, h2, e2, a0, a1, k2⟩ := F37 (n := n+1) (T := T) (m := 8) (by omega) k1 (by decide) (by decide)
      have ok : ∀ m : Num, m = (0, 1) ∨ m = (1, 1) ∨ m = (-1, 1) ∨ m = (2, 1) ∨ m = (-3, 1) → NumOk m := by
        intro m hm
        rcases hm with rfl | rfl | rfl | rfl | rfl <;> exact ⟨by decide, by decide, by decide, by decide, by decide⟩
      have ha : a = 0 ∨ a = 1 ∨ a = 2 ∨ a = 3 ∨ a = 4 ∨ a = 5 ∨ a = 6 ∨ a = 7 := by omega
      have key : ∃ m : Num, L2.atI [D.tup [.int 0, .int 1], D.tup [.int 0, .int 1], D.tup [.int 0, .int 1], D.tup [.int 1, .int 1], D.tup [.int 1, .int 1], D.tup [.int (-1), .int 1], D.tup [.int 2, .int 1], D.tup [.int (-3), .int 1]] a = some (numD m) ∧ NumOk m := by
        rcases ha with rfl | rfl | rfl | rfl | rfl | rfl | rfl | rfl
        · exact ⟨(0, 1), rfl, ok _ (by simp)⟩
        · exact ⟨(0, 1), rfl, ok _ (by simp)⟩
        · exact ⟨(0, 1), rfl, ok _ (by simp)⟩
        · exact ⟨(1, 1), rfl, ok _ (by simp)⟩
        · exact ⟨(1, 1), rfl, ok _ (by simp)⟩
        · exact ⟨(-1, 1), rfl, ok _ (by simp)⟩
        · exact ⟨(2, 1), rfl, ok _ (by simp)⟩
        · exact ⟨(-3, 1), rfl, ok _ (by simp)⟩
      obtain ⟨m, em, hm⟩ := key
      refine ⟨m, h2, ?_, hm, up k2 (by omega)⟩
      rw [run (fd := Ir.f41) rfl rfl]
      simp [Ir.f41, startE, getV, e1, cmpW, eqOwn, clsOf, eqD, cmpD, truthy, c0, c1, e2, ixD, seqOf, em, fin]
end
end P49
namespace P49
open RI
variable {n : Nat}
theorem HOk.up {a b : Nat} {h : List D} (hh : HOk a h) (hab : a ≤ b) : HOk b h := by
  obtain ⟨cells, pos, dig, seed, cnt, e, a1, a2, a3, a4, a5, a6, a7⟩ := hh.ex
  exact ⟨⟨cells, pos, dig, seed, cnt, e, a1, a2, a3, a4, a5, a6, by omega⟩⟩
def unit (k : Nat) (at_ : Int) : List Num := (List.range k).map fun (i : Nat) => ((if (i : Int) = at_ then 1 else 0 : Int), (1 : Int))
theorem unit_ok (k : Nat) (a : Int) : (unit k a).length = k ∧ ∀ m ∈ unit k a, NumOk m := by
  refine ⟨by simp [unit], fun m hm => ?_⟩
  obtain ⟨i, _, rfl⟩ := List.mem_map.mp hm
  by_cases e : (i : Int) = a
  · simp only [e, if_true]; exact ⟨by decide, by decide, by decide, by decide, by decide⟩
  · simp only [e, if_false]; exact ⟨by decide, by decide, by decide, by decide, by decide⟩
theorem rng_ok {k : Nat} (hk : k ≤ 1000) : -lineR ≤ (k : Int) ∧ (k : Int) < lineR := by
  have h1 : (0 : Int) ≤ lineR := by decide
  have h2 : (1000 : Int) < lineR := by decide
  omega
/-- the turns of a range -/
theorem ev_rng {C : Ctx} {a : IE} {η : Env} {S S1 : Store} {k : Nat} (hk : k ≤ 1000) (h : (evalP C a).1 η S = .ok (.d (.int k)) S1) : evalI C (.rng a) η S = .ok (.fix ((List.range k).map fun i => .int (i : Nat))) S1 := by
  show ((evalP C a).1 η S).bind _ = _
  rw [h, Res.bind_ok]
  dsimp only
  rw [if_pos (rng_ok hk)]
  rfl
theorem F42 {S : Store} [OkS S] {k : Nat} {a : Int} (hk : k ≤ 6) : callF Ir.P fu (n+1) 42 [.d (.int k), .d (.int a)] S = .ok (.d (rowD (unit k a))) S := by
  have key := lc_nmT (C := ⟨callF Ir.P fu n, Ir.P, fu⟩) (i := 2) (e := .tup (.cons (.bi .int (.cons (.cmp .eq (.var 2) (.var 1)) .nil)) (.cons (.int 1) .nil))) (η := [some (.d (.int k)), some (.d (.int a)), none]) (S := S) (ws := List.range k) (fun i => .int (i : Nat)) (fun i => numD (if (i : Int) = a then 1 else 0, 1)) (by simp; exact Nat.le_trans hk (by decide)) (by simp) (fun i hi => by
    by_cases e : (i : Int) = a <;> simp [getV, cmpW, eqOwn, clsOf, eqD, cmpD, biD, e, numD])
  have er := ev_rng (C := ⟨callF Ir.P fu n, Ir.P, fu⟩) (a := .var 0) (η := [some (.d (.int k)), some (.d (.int a)), none]) (S := S) (S1 := S) (k := k) (by omega) (by simp [getV])
  rw [run (fd := Ir.f42) rfl rfl]
  simp only [Ir.f42, startE]
  simp [er, wipeE, lcSrc]
  simp only [lcSrc] at key
  rw [key]
  simp [biD, seqOf, rowD, unit, List.map_map, Function.comp_def]
section
variable {T : Store} [OkT T]
/-- a row of drawn numbers -/
theorem draw_nums {C : Ctx} (hC : C = ⟨callF Ir.P fu (n+3), Ir.P, fu⟩) {i : Nat} {η : Env} (hi : i < η.length) {e : IE} (he : ∀ (x : D) (S : Store), (evalP C e).1 (η.set i (some (.d x))) S = C.call 41 [.loc 0, .d (.bl true)] S) : ∀ (xs acc : List D) (N : Nat) (h : List D), HOk N h → N + 3 * xs.length < 900000000 → acc.length + xs.length ≤ 100 →
    ∃ (r : List Num) (h' : List D), lcFix (setT C (.nm i)) (evalC C .no) (evalP C e).1 η xs acc (.lst h :: T) = .ok (acc ++ r.map numD) (.lst h' :: T) ∧ r.length = xs.length ∧ (∀ m ∈ r, NumOk m) ∧ HOk (N + 3 * xs.length) h'
  | [], acc, N, h, hh, _, _ => ⟨[], h, by simp [lcFix], rfl, by simp, by simpa using hh⟩
  | x :: xs, acc, N, h, hh, hN, hl => by
    subst hC
    simp only [List.length_cons] at hN hl
    obtain ⟨m, h1, e1, hm, k1⟩ := F41 (n := n) (T := T) (h := h) (N := N) (by omega) hh
    obtain ⟨r, h2, e2, l2, r2, k2⟩ := draw_nums rfl hi he xs (acc ++ [numD m]) (N + 3) h1 k1 (by omega) (by simp; omega)
    refine ⟨m :: r, h2, ?_, by simp [l2], ?_, by rw [List.length_cons, show N + 3 * (xs.length + 1) = N + 3 + 3 * xs.length by omega]; exact k2⟩
    · have hacc : acc.length < line := Nat.lt_of_lt_of_le (show acc.length < 1000 by omega) (by decide)
      simp only [lcFix, lcTurn]
      simp [hi, ec_no, he, e1, hacc]
      simp only [ec_no] at e2
      rw [e2]
      simp
    · intro y hy
      rcases List.mem_cons.mp hy with rfl | hy
      · exact hm
      · exact r2 y hy
end
theorem ev_lc' {C : Ctx} {η : Env} {S : Store} {e own t it ifs} : (evalP C (.lc e own t it ifs)).1 η S = noExc ((evalI C it η S).bind fun src S1 => (lcSrc (setT C t) (evalC C ifs) (evalP C e).1 (wipeE η own) src S1).bind fun xs S2 => .ok (.d (.lst xs)) S2) := id rfl
theorem asg_nm {C : Ctx} {i : Nat} {e : IE} {η : Env} {S S' : Store} {w : W} (h : (evalP C e).1 η S = .ok w S') (hi : i < η.length) : execS C (.asg (.nm i) e) η S = .ok (.nx (η.set i (some w))) S' := by
  rw [x_asg, h, Res.bind_ok, st_nm, if_pos hi, noExc_ok, Res.bind_ok]
theorem ss_step {C : Ctx} {s : IS} {ss : ISs} {η η' : Env} {S S' : Store} (h : execS C s η S = .ok (.nx η') S') : execSs C (.cons s ss) η S = execSs C ss η' S' := by
  rw [ss_cons', h, Res.bind_ok]
theorem ife_t {C : Ctx} {c : IE} {a b : ISs} {η : Env} {S S' : Store} (h : (evalP C c).2 η S = .ok true S') : execS C (.ife c a b) η S = execSs C a η S' := by
  rw [x_ife, h, Res.bind_ok, if_pos rfl]
theorem ife_f {C : Ctx} {c : IE} {a b : ISs} {η : Env} {S S' : Store} (h : (evalP C c).2 η S = .ok false S') : execS C (.ife c a b) η S = execSs C b η S' := by
  rw [x_ife, h, Res.bind_ok, if_neg (by decide)]
theorem app_step {C : Ctx} {e : IE} {i l : Nat} {η : Env} {h : List D} {xs : List D} {x : D} (hv : getV η i = some (.loc 1)) (he : (evalP C e).1 η [.lst h, .lst xs] = .ok (.d x) [.lst h, .lst xs]) (hl : xs.length < line) :
    execS C (.expr (.bm (.var i) .append (.cons e .nil))) η [.lst h, .lst xs] = .ok (.nx η) [.lst h, .lst (xs ++ [x])] := by
  rw [x_expr, ev_bm, ev_var, hv, ofO_some, Res.bind_ok]
  rw [if_pos (by rfl), es_cons', he, Res.bind_ok, es_nil', Res.bind_ok, Res.bind_ok, bm_app hl, Res.bind_ok]

abbrev eta43 (k : Nat) (mo : W) (x : D) (o7 o8 : Option W) : Env := [some (.loc 0), some mo, some (.d (.bl true)), some (.d (.int k)), some (.loc 1), some (.d x), none, o7, o8, none]
abbrev ix43 : IE := .ix (.lst (.cons .non (.cons (.call 42 (.cons (.var 3) (.cons (.var 5) .nil))) (.cons (.call 42 (.cons (.var 3) (.cons (.call 37 (.cons (.var 0) (.cons (.var 3) .nil))) .nil))) .nil)))) (.var 7)
theorem ix43_ev {C : Ctx} {k : Nat} {mo : W} {x kd a : Int} {o8 : Option W} {S2 S3 : Store} {u v y : D}
    (u1 : C.call 42 [.d (.int k), .d (.int x)] S2 = .ok (.d u) S2) (e3 : C.call 37 [.loc 0, .d (.int k)] S2 = .ok (.d (.int a)) S3)
    (u2 : C.call 42 [.d (.int k), .d (.int a)] S3 = .ok (.d v) S3) (eo : L2.atI [D.non, u, v] kd = some y) :
    (evalP C ix43).1 (eta43 k mo (.int x) (some (.d (.int kd))) o8) S2 = .ok (.d y) S3 := by
  simp only [ix43, eta43, ev_ix, ev_lst, es_cons', es_nil', ev_non, ev_call, ev_var, getV, List.getElem?_cons_zero, List.getElem?_cons_succ, ofO_some, Res.bind_ok, u1, e3, u2, toDs_d, toDs_nil, ixD, seqOf, eo, Option.map_some]
theorem ix43_cf {n ff k : Nat} {mo : W} {x kd a : Int} {o8 : Option W} {S2 S3 : Store} {u v y : D}
    (u1 : callF Ir.P ff (n+2+1) 42 [.d (.int k), .d (.int x)] S2 = .ok (.d u) S2) (e3 : callF Ir.P ff (n+2+1) 37 [.loc 0, .d (.int k)] S2 = .ok (.d (.int a)) S3)
    (u2 : callF Ir.P ff (n+2+1) 42 [.d (.int k), .d (.int a)] S3 = .ok (.d v) S3) (eo : L2.atI [D.non, u, v] kd = some y) :
    (evalP ⟨callF Ir.P ff (n+3), Ir.P, ff⟩ ix43).1 (eta43 k mo (.int x) (some (.d (.int kd))) o8) S2 = .ok (.d y) S3 := by
  have q : n + 3 = n + 2 + 1 := rfl
  rw [q]
  generalize callF Ir.P ff (n+2+1) = cf at *
  exact ix43_ev u1 e3 u2 eo
theorem lt43 {C : Ctx} {k : Nat} {mo : W} {x : D} {kd : Int} {o8 : Option W} {S : Store} :
    (evalP C (.cmp .lt (.var 7) (.int 3))).2 (eta43 k mo x (some (.d (.int kd))) o8) S = .ok (decide (kd < 3)) S := by
  simp [eta43, getV, cmpW, cmpD, intC, truthy]
theorem if43t {C : Ctx} {k : Nat} {mo : W} {x kd : Int} {o8 : Option W} {S2 S3 : Store} {y : D} (c : kd < 3)
    (e : (evalP C ix43).1 (eta43 k mo (.int x) (some (.d (.int kd))) o8) S2 = .ok (.d y) S3) :
    execS C (.ife (.cmp .lt (.var 7) (.int 3)) (.cons (.asg (.nm 8) ix43) .nil) .nil) (eta43 k mo (.int x) (some (.d (.int kd))) o8) S2 = .ok (.nx (eta43 k mo (.int x) (some (.d (.int kd))) (some (.d y)))) S3 := by
  have h1 := @lt43 C k mo (.int x) kd o8 S2
  rw [decide_eq_true c] at h1
  rw [ife_t h1, ss_step (asg_nm e (by simp [eta43])), ss_nil']
  simp [eta43]
theorem if43f {C : Ctx} {k : Nat} {mo : W} {x kd : Int} {o8 : Option W} {S2 : Store} (c : ¬ kd < 3) :
    execS C (.ife (.cmp .lt (.var 7) (.int 3)) (.cons (.asg (.nm 8) ix43) .nil) .nil) (eta43 k mo (.int x) (some (.d (.int kd))) o8) S2 = .ok (.nx (eta43 k mo (.int x) (some (.d (.int kd))) o8)) S2 := by
  have h1 := @lt43 C k mo (.int x) kd o8 S2
  rw [decide_eq_false c] at h1
  rw [ife_f h1, ss_nil']
theorem a43 {C : Ctx} {k : Nat} {mo : W} {x kd : Int} {o7 o8 : Option W} {S S1 : Store} (e1 : C.call 37 [.loc 0, .d (.int 6)] S = .ok (.d (.int kd)) S1) :
    execS C (.asg (.nm 7) (.call 37 (.cons (.var 0) (.cons (.int 6) .nil)))) (eta43 k mo (.int x) o7 o8) S = .ok (.nx (eta43 k mo (.int x) (some (.d (.int kd))) o8)) S1 := by
  have h : (evalP C (.call 37 (.cons (.var 0) (.cons (.int 6) .nil)))).1 (eta43 k mo (.int x) o7 o8) S = .ok (.d (.int kd)) S1 := by
    simp only [eta43, es_cons', es_nil', ev_call, ev_var, ev_int, getV, List.getElem?_cons_zero, List.getElem?_cons_succ, ofO_some, Res.bind_ok, e1]
  rw [asg_nm h (by simp [eta43])]
  simp [eta43]
theorem b43 {C : Ctx} {k : Nat} {mo : W} {x : D} {kd : Int} {o8 : Option W} {S1 S2 : Store} {r : List D} {src}
    (er : evalI C (.rng (.var 3)) (eta43 k mo x (some (.d (.int kd))) o8) S1 = .ok (.fix src) S1)
    (e2 : lcFix (setT C (.nm 9)) (evalC C .no) (evalP C (.call 41 (.cons (.var 0) (.cons (.var 2) .nil)))).1 (eta43 k mo x (some (.d (.int kd))) o8) src [] S1 = .ok r S2) :
    execS C (.asg (.nm 8) (.bi .tuple (.cons (.lc (.call 41 (.cons (.var 0) (.cons (.var 2) .nil))) [9] (.nm 9) (.rng (.var 3)) .no) .nil))) (eta43 k mo x (some (.d (.int kd))) o8) S1 = .ok (.nx (eta43 k mo x (some (.d (.int kd))) (some (.d (.tup r))))) S2 := by
  have hv : (evalP C (.bi .tuple (.cons (.lc (.call 41 (.cons (.var 0) (.cons (.var 2) .nil))) [9] (.nm 9) (.rng (.var 3)) .no) .nil))).1 (eta43 k mo x (some (.d (.int kd))) o8) S1 = .ok (.d (.tup r)) S2 := by
    have hw : wipeE (eta43 k mo x (some (.d (.int kd))) o8) [9] = eta43 k mo x (some (.d (.int kd))) o8 := by simp [eta43, wipeE]
    rw [ev_bi, es_cons', ev_lc', er, Res.bind_ok, hw]
    simp only [lcSrc, e2, Res.bind_ok, noExc_ok, es_nil', biD, seqOf, Option.map_some, ofO_some]
  rw [asg_nm hv (by simp [eta43])]
  simp [eta43]

theorem c43 {C : Ctx} {k : Nat} {mo : W} {x : D} {kd : Int} {y : D} {h xs : List D} (hl : xs.length < line) :
    execS C (.expr (.bm (.var 4) .append (.cons (.var 8) .nil))) (eta43 k mo x (some (.d (.int kd))) (some (.d y))) [.lst h, .lst xs] = .ok (.nx (eta43 k mo x (some (.d (.int kd))) (some (.d y)))) [.lst h, .lst (xs ++ [y])] :=
  app_step (l := 1) (x := y) rfl (by rw [ev_var]; rfl) hl
abbrev body43 : ISs := (.cons (.asg (.nm 7) (.call 37 (.cons (.var 0) (.cons (.int 6) .nil)))) (.cons (.asg (.nm 8) (.bi .tuple (.cons (.lc (.call 41 (.cons (.var 0) (.cons (.var 2) .nil))) [9] (.nm 9) (.rng (.var 3)) .no) .nil))) (.cons (.ife (.cmp .lt (.var 7) (.int 3)) (.cons (.asg (.nm 8) ix43) .nil) .nil) (.cons (.expr (.bm (.var 4) .append (.cons (.var 8) .nil))) .nil))))
theorem F43_loop {C : Ctx} (hC : C = ⟨callF Ir.P fu (n+3), Ir.P, fu⟩) {k : Nat} (hk1 : 1 ≤ k) (hk : k ≤ 6) {mo : W} : ∀ (xs : List Int) (acc : List (Option (List Num))) (N : Nat) (h : List D) (o5 o7 o8 : Option W), HOk N h → N + 30 * xs.length < 800000000 → acc.length + xs.length ≤ 6 → (∀ x ∈ acc, RowOk k x) →
    ∃ (rows : List (Option (List Num))) (h' : List D) (o5' o7' o8' : Option W), forFix (setT C (.nm 5)) (execSs C body43) (xs.map .int) [some (.loc 0), some mo, some (.d (.bl true)), some (.d (.int k)), some (.loc 1), o5, none, o7, o8, none] [.lst h, .lst (acc.map orowD)]
      = .ok (.nx [some (.loc 0), some mo, some (.d (.bl true)), some (.d (.int k)), some (.loc 1), o5', none, o7', o8', none]) [.lst h', .lst (rows.map orowD)] ∧ rows.length = acc.length + xs.length ∧ (∀ x ∈ rows, RowOk k x) ∧ HOk (N + 30 * xs.length) h' := by
  intro xs
  induction xs with
  | nil =>
    intro acc N h o5 o7 o8 hh _ _ ha
    exact ⟨acc, h, o5, o7, o8, by simp [forFix], rfl, ha, by simpa using hh⟩
  | cons x xs ih =>
    intro acc N h o5 o7 o8 hh hN hl ha
    simp only [List.length_cons] at hN hl
    have key : ∃ (o : Option (List Num)) (h3 : List D), RowOk k o ∧ HOk (N + 30) h3 ∧ ∃ kd o8', execSs C body43 (eta43 k mo (.int x) o7 o8) [.lst h, .lst (acc.map orowD)] = .ok (.nx (eta43 k mo (.int x) (some (.d (.int kd))) o8')) [.lst h3, .lst ((acc ++ [o]).map orowD)] := by
      subst hC
      obtain ⟨kd, h1, e1, kd0, kd1, k1⟩ := F37 (n := n+2) (T := [.lst (acc.map orowD)]) (m := 6) (h := h) (N := N) (by omega) hh (by decide) (by decide)
      obtain ⟨r, h2, e2, l2, r2, k2⟩ := draw_nums (n := n) (T := [.lst (acc.map orowD)]) (C := ⟨callF Ir.P fu (n+3), Ir.P, fu⟩) rfl (i := 9) (η := eta43 k mo (.int x) (some (.d (.int kd))) o8) (by simp) (e := .call 41 (.cons (.var 0) (.cons (.var 2) .nil))) (fun x S => by simp [getV]) ((List.range k).map fun i => .int (i : Nat)) [] (N+1) h1 k1 (by simp; omega) (by simp; omega)
      simp only [List.length_map, List.length_range] at l2 k2
      have hacc : (acc.map orowD).length < line := by
        rw [List.length_map]; exact Nat.lt_of_lt_of_le (show acc.length < 1000 by omega) (by decide)
      have er := ev_rng (C := ⟨callF Ir.P fu (n+3), Ir.P, fu⟩) (a := .var 3) (η := eta43 k mo (.int x) (some (.d (.int kd))) o8) (S := [.lst h1, .lst (acc.map orowD)]) (S1 := [.lst h1, .lst (acc.map orowD)]) (k := k) (by omega) (by simp [getV])
      simp only [List.nil_append] at e2
      have s1 := a43 (C := ⟨callF Ir.P fu (n+3), Ir.P, fu⟩) (k := k) (mo := mo) (x := x) (o7 := o7) (o8 := o8) e1
      have s2 := b43 er e2
      change _ = Res.ok (Flow.nx (eta43 k mo (.int x) (some (.d (.int kd))) (some (.d (rowD r))))) _ at s2
      by_cases c : kd < 3
      · obtain ⟨a, h3, e3, a0, a1, k3⟩ := F37 (n := n+2) (T := [.lst (acc.map orowD)]) (m := k) (h := h2) (N := N + 1 + 3 * k) (by omega) k2 (by omega) (Int.lt_of_le_of_lt (show ((k : Nat) : Int) ≤ 6 by omega) (by decide))
        have u1 := F42 (n := n+2) (S := [.lst h2, .lst (acc.map orowD)]) (k := k) (a := x) hk
        have u2 := F42 (n := n+2) (S := [.lst h3, .lst (acc.map orowD)]) (k := k) (a := a) hk
        have hk3 : kd = 0 ∨ kd = 1 ∨ kd = 2 := by omega
        have key : ∃ o : Option (List Num), L2.atI [D.non, rowD (unit k x), rowD (unit k a)] kd = some (orowD o) ∧ RowOk k o := by
          rcases hk3 with rfl | rfl | rfl
          · exact ⟨none, rfl, trivial⟩
          · exact ⟨some (unit k x), rfl, unit_ok k x⟩
          · exact ⟨some (unit k a), rfl, unit_ok k a⟩
        obtain ⟨o, eo, ho⟩ := key
        have s30 := ix43_cf (mo := mo) (n := n) (ff := fu) (o8 := some (.d (rowD r))) u1 e3 u2 eo
        have s3 := if43t (o8 := some (.d (rowD r))) c s30
        refine ⟨o, h3, ho, k3.up (by omega), kd, some (.d (orowD o)), ?_⟩
        rw [ss_step s1, ss_step s2, ss_step s3, ss_step (c43 hacc), ss_nil', List.map_append]
        simp only [List.map_cons, List.map_nil]
      · have s3 := if43f (C := ⟨callF Ir.P fu (n+3), Ir.P, fu⟩) (k := k) (mo := mo) (x := x) (o8 := some (.d (rowD r))) (S2 := [.lst h2, .lst (acc.map orowD)]) c
        refine ⟨some r, h2, ⟨l2, r2⟩, k2.up (by omega), kd, some (.d (rowD r)), ?_⟩
        rw [ss_step s1, ss_step s2, ss_step s3, ss_step (c43 hacc), ss_nil', List.map_append]
        simp only [List.map_cons, List.map_nil, orowD]
    obtain ⟨o, h3, ho, k3, kd, o8', ek⟩ := key
    obtain ⟨rows, h4, p5, p7, p8, el, hl', hr, hk4⟩ := ih (acc ++ [o]) (N + 30) h3 (some (.d (.int x))) (some (.d (.int kd))) o8' k3 (by omega) (by simp; omega) (by
      intro y hy
      rcases List.mem_append.mp hy with hy | hy
      · exact ha y hy
      · simp at hy; subst hy; exact ho)
    refine ⟨rows, h4, p5, p7, p8, ?_, by rw [hl']; simp; omega, hr, by rw [List.length_cons, show N + 30 * (xs.length + 1) = N + 30 + 30 * xs.length by omega]; exact hk4⟩
    rw [List.map_cons, forFix]
    simp only [st_nm, List.length_cons, List.length_nil, List.set, noExc_ok, Res.bind_ok, Nat.reduceAdd, Nat.reduceLT, if_true]
    rw [ek]
    exact el
end P49
namespace P49
open RI
variable {n : Nat}
abbrev tst43 : IE := .cmp .eq (.call 37 (.cons (.var 0) (.cons (.int 8) .nil))) (.int 0)
theorem tst43_ev {C : Ctx} {η : Env} {S S1 : Store} {r : Int} (h0 : getV η 0 = some (.loc 0)) (e : C.call 37 [.loc 0, .d (.int 8)] S = .ok (.d (.int r)) S1) :
    (evalP C tst43).2 η S = .ok (decide (r = 0)) S1 := by
  by_cases c : r = 0 <;> simp [h0, e, cmpW, cmpD, eqD, pyEq_int, truthy, c, eqOwn, clsOf]
theorem lock_loop {C : Ctx} (hC : C.call = callF Ir.P fu (n+3)) {T : Store} [OkT T] : ∀ (xs : List Int) (η : Env) (acc : List D) (N : Nat) (h : List D), getV η 0 = some (.loc 0) → 5 < η.length → HOk N h → N + xs.length < 800000000 → acc.length + xs.length ≤ 100 →
    ∃ (l : List Int) (h' : List D), lcFix (setT C (.nm 5)) (evalC C (.yes tst43)) (evalP C (.var 5)).1 η (xs.map .int) acc (.lst h :: T) = .ok (acc ++ l.map .int) (.lst h' :: T) ∧ l.Sublist xs ∧ HOk (N + xs.length) h' := by
  intro xs
  induction xs with
  | nil => intro η acc N h _ _ hh _ _; exact ⟨[], h, by simp [lcFix], List.Sublist.refl _, by simpa using hh⟩
  | cons x xs ih =>
    intro η acc N h g0 gl hh hN hl
    simp only [List.length_cons] at hN hl
    obtain ⟨r, h1, e1, r0, r1, k1⟩ := F37 (n := n+2) (T := T) (m := 8) (h := h) (N := N) (by omega) hh (by decide) (by decide)
    have q : n + 3 = n + 2 + 1 := rfl
    have e1' : C.call 37 [.loc 0, .d (.int 8)] (.lst h :: T) = .ok (.d (.int r)) (.lst h1 :: T) := by rw [hC, q]; exact e1
    have g0' : getV (η.set 5 (some (.d (.int x)))) 0 = some (.loc 0) := by
      cases η with
      | nil => simp at gl
      | cons a η => simpa [getV] using g0
    have ht := tst43_ev (C := C) (η := η.set 5 (some (.d (.int x)))) g0' e1'
    have hacc : acc.length < line := Nat.lt_of_lt_of_le (show acc.length < 1000 by omega) (by decide)
    have g5 : getV (η.set 5 (some (.d (.int x)))) 5 = some (.d (.int x)) := by simp [getV, gl]
    by_cases c : r = 0
    · obtain ⟨l, h2, e2, s2, k2⟩ := ih η (acc ++ [.int x]) (N + 1) h1 g0 gl k1 (by omega) (by simp; omega)
      refine ⟨x :: l, h2, ?_, s2.cons_cons x, by rw [List.length_cons, show N + (xs.length + 1) = N + 1 + xs.length by omega]; exact k2⟩
      rw [decide_eq_true c] at ht
      rw [List.map_cons, lcFix, lcTurn, st_nm, if_pos gl, Res.bind_ok, ec_yes, ht, Res.bind_ok, if_pos rfl, ev_var, g5, ofO_some, Res.bind_ok]
      rw [ec_yes] at e2
      simp only [toD, Res.bind_ok, if_pos hacc]
      rw [e2]
      simp
    · obtain ⟨l, h2, e2, s2, k2⟩ := ih η acc (N + 1) h1 g0 gl k1 (by omega) (by omega)
      refine ⟨l, h2, ?_, s2.cons x, by rw [List.length_cons, show N + (xs.length + 1) = N + 1 + xs.length by omega]; exact k2⟩
      rw [decide_eq_false c] at ht
      rw [List.map_cons, lcFix, lcTurn, st_nm, if_pos gl, Res.bind_ok, ec_yes, ht, Res.bind_ok, if_neg (by decide), Res.bind_ok]
      exact e2
theorem incr_pw : ∀ xs : List Int, xs.Pairwise (· < ·) → incr xs = true
  | [], _ => rfl
  | [a], _ => rfl
  | a :: b :: r, h => by
    rw [incr, incr_pw (b :: r) (List.pairwise_cons.mp h).2]
    simp [(List.pairwise_cons.mp h).1 b (by simp)]
theorem sub_range {k : Nat} {l : List Int} (h : l.Sublist ((List.range k).map fun (i : Nat) => (i : Int))) : (∀ c ∈ l, 0 ≤ c ∧ c < k) ∧ incr l = true := by
  refine ⟨fun c hc => ?_, incr_pw l (List.Pairwise.sublist h ?_)⟩
  · obtain ⟨i, hi, rfl⟩ := List.mem_map.mp (h.subset hc)
    have := List.mem_range.mp hi
    omega
  · rw [List.pairwise_map]
    refine List.Pairwise.imp ?_ List.pairwise_lt_range
    intro a b h; omega
end P49
namespace P49
open RI
variable {n : Nat}
theorem fin_loc {x : D} {h z : List D} : finish false 1 (.ok (.ret (.d x)) [.lst h, .lst z]) = .ok (.d x) [.lst h] := by
  simp [finish, close, belows, cellBelow, freeze]
theorem g43_1 {C : Ctx} {m r : Int} {h h1 : List D} (e : C.call 37 [.loc 0, .d (.int m)] [.lst h] = .ok (.d (.int r)) [.lst h1]) :
    execS C (.asg (.nm 3) (.bin .add (.int 1) (.call 37 (.cons (.var 0) (.cons (.var 1) .nil))))) [some (.loc 0), some (.d (.int m)), some (.d (.bl true)), none, none, none, none, none, none, none] [.lst h]
      = .ok (.nx [some (.loc 0), some (.d (.int m)), some (.d (.bl true)), some (.d (.int (1 + r))), none, none, none, none, none, none]) [.lst h1] := by
  simp [getV, e, binD, intC, addD]
theorem g43_2 {C : Ctx} {mo : W} {k : Int} {h1 : List D} :
    execS C (.asg (.nm 4) (.thaw (.lst .nil))) [some (.loc 0), some mo, some (.d (.bl true)), some (.d (.int k)), none, none, none, none, none, none] [.lst h1]
      = .ok (.nx [some (.loc 0), some mo, some (.d (.bl true)), some (.d (.int k)), some (.loc 1), none, none, none, none, none]) [.lst h1, .lst []] := by
  simp [thawD]
theorem g43_4 {C : Ctx} {mo : W} {k : Nat} {o5 o7 o8 : Option W} {h h' xs l : List D} 
    (er : evalI C (.rng (.var 3)) [some (.loc 0), some mo, some (.d (.bl true)), some (.d (.int k)), some (.loc 1), o5, none, o7, o8, none] [.lst h, .lst xs] = .ok (.fix ((List.range k).map fun i => .int (i : Nat))) [.lst h, .lst xs])
    (e2 : lcFix (setT C (.nm 5)) (evalC C (.yes tst43)) (evalP C (.var 5)).1 [some (.loc 0), some mo, some (.d (.bl true)), some (.d (.int k)), some (.loc 1), none, none, o7, o8, none] ((List.range k).map fun i => .int (i : Nat)) [] [.lst h, .lst xs] = .ok l [.lst h', .lst xs]) :
    execS C (.asg (.nm 6) (.bi .tuple (.cons (.lc (.var 5) [5] (.nm 5) (.rng (.var 3)) (.yes tst43)) .nil))) [some (.loc 0), some mo, some (.d (.bl true)), some (.d (.int k)), some (.loc 1), o5, none, o7, o8, none] [.lst h, .lst xs]
      = .ok (.nx [some (.loc 0), some mo, some (.d (.bl true)), some (.d (.int k)), some (.loc 1), o5, some (.d (.tup l)), o7, o8, none]) [.lst h', .lst xs] := by
  have hv : (evalP C (.bi .tuple (.cons (.lc (.var 5) [5] (.nm 5) (.rng (.var 3)) (.yes tst43)) .nil))).1 [some (.loc 0), some mo, some (.d (.bl true)), some (.d (.int k)), some (.loc 1), o5, none, o7, o8, none] [.lst h, .lst xs] = .ok (.d (.tup l)) [.lst h', .lst xs] := by
    have hw : wipeE [some (.loc 0), some mo, some (.d (.bl true)), some (.d (.int k)), some (.loc 1), o5, none, o7, o8, none] [5] = [some (.loc 0), some mo, some (.d (.bl true)), some (.d (.int k)), some (.loc 1), none, none, o7, o8, none] := by simp [wipeE]
    rw [ev_bi, es_cons', ev_lc', er, Res.bind_ok, hw]
    simp only [lcSrc, e2, Res.bind_ok, noExc_ok, es_nil', biD, seqOf, Option.map_some, ofO_some]
  rw [asg_nm hv (by simp)]
  simp
theorem g43_5 {C : Ctx} {mo : W} {k : W} {r : Int} {o5 o7 o8 : Option W} {h h' xs : List D} {l : D} (hl : xs.length ≤ line)
    (e : C.call 37 [.loc 0, .d (.int 3)] [.lst h, .lst xs] = .ok (.d (.int r)) [.lst h', .lst xs]) :
    execS C (.ret (.tup (.cons (.bi .tuple (.cons (.var 4) .nil)) (.cons (.var 6) (.cons (.call 37 (.cons (.var 0) (.cons (.int 3) .nil))) .nil))))) [some (.loc 0), some mo, some (.d (.bl true)), some k, some (.loc 1), o5, some (.d l), o7, o8, none] [.lst h, .lst xs]
      = .ok (.ret (.d (.tup [.tup xs, l, .int r]))) [.lst h', .lst xs] := by
  simp [getV, e, biD, seqOf, hl]
theorem F43 {N m : Nat} {h : List D} (hN : N < 700000000) (hh : HOk N h) (m1 : 1 ≤ m) (m6 : m ≤ 6) :
    ∃ rows locked spare h', WOkk rows locked spare ∧ rows.length ≤ m ∧ HOk (N + 200) h' ∧ callF Ir.P fu (n+5) 43 [.loc 0, .d (.int m), .d (.bl true)] [.lst h] = .ok (.d (.tup [.tup (rows.map orowD), intsD locked, .int spare])) [.lst h'] := by
  obtain ⟨r, h1, e1, r0, r1, k1⟩ := F37 (n := n+3) (T := []) (m := m) (h := h) (N := N) (by omega) hh (by omega) (Int.lt_of_le_of_lt (show ((m : Nat) : Int) ≤ 6 by omega) (by decide))
  obtain ⟨k, hk⟩ : ∃ k : Nat, (k : Int) = 1 + r := ⟨(1 + r).toNat, by omega⟩
  generalize hC : (Ctx.mk (callF Ir.P fu (n+4)) Ir.P fu) = C
  have hcall : C.call = callF Ir.P fu (n+1+3) := by rw [← hC]
  obtain ⟨rows, h2, o5, o7, o8, e2, l2, rk, k2⟩ := F43_loop (n := n+1) (C := C) hC.symm (k := k) (by omega) (by omega) (mo := .d (.int m)) ((List.range k).map fun (i : Nat) => (i : Int)) [] (N+1) h1 none none none k1 (by simp; omega) (by simp; omega) (by simp)
  simp only [List.length_map, List.length_range, List.length_nil, Nat.zero_add] at l2 k2
  obtain ⟨l, h3, e3, s3, k3⟩ := lock_loop (n := n+1) hcall (T := [.lst (rows.map orowD)]) ((List.range k).map fun (i : Nat) => (i : Int)) [some (.loc 0), some (.d (.int m)), some (.d (.bl true)), some (.d (.int k)), some (.loc 1), none, none, o7, o8, none] [] (N + 1 + 30 * k) h2 rfl (by simp) k2 (by simp; omega) (by simp; omega)
  obtain ⟨sp, h4, e4, sp0, sp1, k4⟩ := F37 (n := n+3) (T := [.lst (rows.map orowD)]) (m := 3) (h := h3) (N := N + 1 + 30 * k + k) (by omega) (by simpa using k3) (by decide) (by decide)
  obtain ⟨lk, inc⟩ := sub_range s3
  refine ⟨rows, l, sp, h4, ⟨by omega, by omega, ?_, ?_, inc, sp0, by omega⟩, by omega, k4.up (by omega), ?_⟩
  · rw [l2]; exact rk
  · rw [l2]; exact lk
  have q : n + 4 = n + 3 + 1 := rfl
  have e1' : C.call 37 [.loc 0, .d (.int m)] [.lst h] = .ok (.d (.int r)) [.lst h1] := by rw [← hC]; exact e1
  have e4' : C.call 37 [.loc 0, .d (.int 3)] [.lst h3, .lst (rows.map orowD)] = .ok (.d (.int sp)) [.lst h4, .lst (rows.map orowD)] := by rw [← hC]; exact e4
  rw [run (fd := Ir.f43) rfl rfl]
  rw [hC]
  have s1 := g43_1 e1'
  rw [← hk] at s1
  have er := fun (η : Env) (S : Store) (hg : getV η 3 = some (.d (.int k))) => ev_rng (C := C) (a := .var 3) (η := η) (S := S) (S1 := S) (k := k) (by omega) (by rw [ev_var, hg]; rfl)
  have s3 := er [some (.loc 0), some (.d (.int m)), some (.d (.bl true)), some (.d (.int k)), some (.loc 1), none, none, none, none, none] [.lst h1, .lst []] rfl
  have hmm : (((List.range k).map fun (i : Nat) => (i : Int)).map D.int) = ((List.range k).map fun i => .int (i : Nat)) := by rw [List.map_map]; rfl
  rw [hmm] at e2 e3
  have hl : (rows.map orowD).length ≤ line := by rw [List.length_map]; exact Nat.le_trans (show rows.length ≤ 1000 by omega) (by decide)
  have s4 := g43_4 (er [some (.loc 0), some (.d (.int m)), some (.d (.bl true)), some (.d (.int k)), some (.loc 1), o5, none, o7, o8, none] [.lst h2, .lst (rows.map orowD)] rfl) e3
  have s5 := g43_5 (k := .d (.int k)) (mo := .d (.int m)) (o5 := o5) (o7 := o7) (o8 := o8) (l := .tup (l.map .int)) hl e4'
  have sf : execS C (.for_ (.nm 5) (.rng (.var 3)) body43) [some (.loc 0), some (.d (.int m)), some (.d (.bl true)), some (.d (.int k)), some (.loc 1), none, none, none, none, none] [.lst h1, .lst []] = .ok (.nx [some (.loc 0), some (.d (.int m)), some (.d (.bl true)), some (.d (.int k)), some (.loc 1), o5, none, o7, o8, none]) [.lst h2, .lst (rows.map orowD)] := by
    rw [x_for, s3, Res.bind_ok]
    exact e2
  have body : execSs C Ir.f43.body (startE Ir.f43.N.length [.loc 0, .d (.int m), .d (.bl true)]) [.lst h] = .ok (.ret (.d (.tup [.tup (rows.map orowD), intsD l, .int sp]))) [.lst h4, .lst (rows.map orowD)] := by
    refine (ss_step s1).trans ?_
    refine (ss_step g43_2).trans ?_
    refine (ss_step sf).trans ?_
    refine (ss_step s4).trans ?_
    rw [ss_cons', List.nil_append, s5, Res.bind_ok]
    rfl
  rw [body]
  exact fin_loc
end P49
namespace P49
open RI
variable {n : Nat}
abbrev eta48 (k : Nat) (m : Int) (o4 o5 : Option W) : Env := [some (.loc 0), some (.d (.int k)), some (.d (.int m)), some (.loc 1), o4, o5, none]
abbrev lc48 : IE := .lc (.call 41 (.cons (.var 0) (.cons (.bl true) .nil))) [6] (.nm 6) (.rng (.var 1)) .no
abbrev body48 : ISs := (.cons (.asg (.nm 5) (.call 37 (.cons (.var 0) (.cons (.var 1) .nil)))) (.cons (.expr (.bm (.var 3) .append (.cons (.tup (.cons (.var 5) (.cons (.bi .tuple (.cons lc48 .nil)) .nil))) .nil))) .nil))
theorem a48 {C : Ctx} {k : Nat} {m r : Int} {o4 o5 : Option W} {S S1 : Store} (e : C.call 37 [.loc 0, .d (.int k)] S = .ok (.d (.int r)) S1) :
    execS C (.asg (.nm 5) (.call 37 (.cons (.var 0) (.cons (.var 1) .nil)))) (eta48 k m o4 o5) S = .ok (.nx (eta48 k m o4 (some (.d (.int r))))) S1 := by
  simp [getV, e]
theorem b48 {C : Ctx} {k : Nat} {m c : Int} {o4 : Option W} {h h2 xs r : List D} (hl : xs.length < line)
    (er : evalI C (.rng (.var 1)) (eta48 k m o4 (some (.d (.int c)))) [.lst h, .lst xs] = .ok (.fix ((List.range k).map fun i => .int (i : Nat))) [.lst h, .lst xs])
    (e2 : lcFix (setT C (.nm 6)) (evalC C .no) (evalP C (.call 41 (.cons (.var 0) (.cons (.bl true) .nil)))).1 (eta48 k m o4 (some (.d (.int c)))) ((List.range k).map fun i => .int (i : Nat)) [] [.lst h, .lst xs] = .ok r [.lst h2, .lst xs]) :
    execS C (.expr (.bm (.var 3) .append (.cons (.tup (.cons (.var 5) (.cons (.bi .tuple (.cons lc48 .nil)) .nil))) .nil))) (eta48 k m o4 (some (.d (.int c)))) [.lst h, .lst xs] = .ok (.nx (eta48 k m o4 (some (.d (.int c))))) [.lst h2, .lst (xs ++ [.tup [.int c, .tup r]])] := by
  have hw : wipeE (eta48 k m o4 (some (.d (.int c)))) [6] = eta48 k m o4 (some (.d (.int c))) := by simp [wipeE]
  have hv : (evalP C (.tup (.cons (.var 5) (.cons (.bi .tuple (.cons lc48 .nil)) .nil)))).1 (eta48 k m o4 (some (.d (.int c)))) [.lst h, .lst xs] = .ok (.d (.tup [.int c, .tup r])) [.lst h2, .lst xs] := by
    rw [ev_tup, es_cons', ev_var, show getV (eta48 k m o4 (some (.d (.int c)))) 5 = some (.d (.int c)) from rfl, ofO_some, Res.bind_ok, es_cons', ev_bi, es_cons', ev_lc', er, Res.bind_ok, hw]
    simp only [lcSrc, e2, Res.bind_ok, noExc_ok, es_nil', biD, seqOf, Option.map_some, ofO_some, toDs_d, toDs_nil]
  rw [x_expr, ev_bm, ev_var, show getV (eta48 k m o4 (some (.d (.int c)))) 3 = some (.loc 1) from rfl, ofO_some, Res.bind_ok]
  rw [if_pos (by rfl), es_cons', hv, Res.bind_ok, es_nil', Res.bind_ok, Res.bind_ok, bm_app hl, Res.bind_ok]
theorem F48_loop {C : Ctx} (hC : C = ⟨callF Ir.P fu (n+3), Ir.P, fu⟩) {k : Nat} {m : Int} (hk1 : 1 ≤ k) (hk : k ≤ 8) : ∀ (xs : List D) (acc : List Wr) (N : Nat) (h : List D) (o4 o5 : Option W), HOk N h → N + 30 * xs.length < 800000000 → acc.length + xs.length ≤ 20 → (∀ x ∈ acc, WrOk k x) →
    ∃ (p : List Wr) (h' : List D) (o4' o5' : Option W), forFix (setT C (.nm 4)) (execSs C body48) xs (eta48 k m o4 o5) [.lst h, .lst (acc.map wrD)]
      = .ok (.nx (eta48 k m o4' o5')) [.lst h', .lst (p.map wrD)] ∧ p.length = acc.length + xs.length ∧ (∀ x ∈ p, WrOk k x) ∧ HOk (N + 30 * xs.length) h' := by
  intro xs
  induction xs with
  | nil =>
    intro acc N h o4 o5 hh _ _ ha
    exact ⟨acc, h, o4, o5, by simp [forFix], rfl, ha, by simpa using hh⟩
  | cons x xs ih =>
    intro acc N h o4 o5 hh hN hl ha
    simp only [List.length_cons] at hN hl
    have key : ∃ (w : Wr) (h3 : List D), WrOk k w ∧ HOk (N + 30) h3 ∧ ∃ o5', execSs C body48 (eta48 k m (some (.d x)) o5) [.lst h, .lst (acc.map wrD)] = .ok (.nx (eta48 k m (some (.d x)) o5')) [.lst h3, .lst ((acc ++ [w]).map wrD)] := by
      subst hC
      obtain ⟨c, h1, e1, c0, c1, k1⟩ := F37 (n := n+2) (T := [.lst (acc.map wrD)]) (m := k) (h := h) (N := N) (by omega) hh (by omega) (Int.lt_of_le_of_lt (show ((k : Nat) : Int) ≤ 8 by omega) (by decide))
      obtain ⟨r, h2, e2, l2, r2, k2⟩ := draw_nums (n := n) (T := [.lst (acc.map wrD)]) (C := ⟨callF Ir.P fu (n+3), Ir.P, fu⟩) rfl (i := 6) (η := eta48 k m (some (.d x)) (some (.d (.int c)))) (by simp) (e := .call 41 (.cons (.var 0) (.cons (.bl true) .nil))) (fun x S => by simp [getV]) ((List.range k).map fun i => .int (i : Nat)) [] (N+1) h1 k1 (by simp; omega) (by simp; omega)
      simp only [List.length_map, List.length_range] at l2 k2
      have hacc : (acc.map wrD).length < line := by
        rw [List.length_map]; exact Nat.lt_of_lt_of_le (show acc.length < 1000 by omega) (by decide)
      have er := ev_rng (C := ⟨callF Ir.P fu (n+3), Ir.P, fu⟩) (a := .var 1) (η := eta48 k m (some (.d x)) (some (.d (.int c)))) (S := [.lst h1, .lst (acc.map wrD)]) (S1 := [.lst h1, .lst (acc.map wrD)]) (k := k) (by omega) (by simp [getV])
      simp only [List.nil_append] at e2
      have s1 := a48 (C := ⟨callF Ir.P fu (n+3), Ir.P, fu⟩) (k := k) (m := m) (o4 := some (.d x)) (o5 := o5) e1
      have s2 := b48 hacc er e2
      refine ⟨(c, r), h2, ⟨c0, c1, l2, r2⟩, k2.up (by omega), some (.d (.int c)), ?_⟩
      rw [ss_step s1, ss_step s2, ss_nil', List.map_append]
      simp only [List.map_cons, List.map_nil, wrD, rowD]
    obtain ⟨w, h3, ho, k3, o5', ek⟩ := key
    obtain ⟨p, h4, p4, p5, el, hl', hr, hk4⟩ := ih (acc ++ [w]) (N + 30) h3 (some (.d x)) o5' k3 (by omega) (by simp; omega) (by
      intro y hy
      rcases List.mem_append.mp hy with hy | hy
      · exact ha y hy
      · simp at hy; subst hy; exact ho)
    refine ⟨p, h4, p4, p5, ?_, by rw [hl']; simp; omega, hr, by rw [List.length_cons, show N + 30 * (xs.length + 1) = N + 30 + 30 * xs.length by omega]; exact hk4⟩
    rw [forFix]
    simp only [st_nm, List.length_cons, List.length_nil, List.set, noExc_ok, Res.bind_ok, Nat.reduceAdd, Nat.reduceLT, if_true]
    rw [ek]
    exact el
end P49
namespace P49
open RI
variable {n : Nat}
theorem g48_1 {C : Ctx} {a b : W} {S : Store} {h : List D} :
    execS C (.asg (.nm 3) (.thaw (.lst .nil))) [some (.loc 0), some a, some b, none, none, none, none] [.lst h]
      = .ok (.nx [some (.loc 0), some a, some b, some (.loc 1), none, none, none]) [.lst h, .lst []] := by
  simp [thawD]
theorem g48_2 {C : Ctx} {k m r : Int} {S S1 : Store} (e : C.call 37 [.loc 0, .d (.int (m + 1))] S = .ok (.d (.int r)) S1) :
    (evalP C (.call 37 (.cons (.var 0) (.cons (.bin .add (.var 2) (.int 1)) .nil)))).1 [some (.loc 0), some (.d (.int k)), some (.d (.int m)), some (.loc 1), none, none, none] S = .ok (.d (.int r)) S1 := by
  simp [getV, binD, addD, e]
theorem g48_3 {C : Ctx} {k : Nat} {m : Int} {o4 o5 : Option W} {h xs : List D} (hl : xs.length ≤ line) :
    execS C (.ret (.bi .tuple (.cons (.var 3) .nil))) (eta48 k m o4 o5) [.lst h, .lst xs] = .ok (.ret (.d (.tup xs))) [.lst h, .lst xs] := by
  simp [getV, biD, seqOf, hl]
theorem F48 {N k m : Nat} {h : List D} (hN : N < 700000000) (hh : HOk N h) (hk1 : 1 ≤ k) (hk : k ≤ 8) (hm : m ≤ 10) :
    ∃ (p : List Wr) (h' : List D), (∀ w ∈ p, WrOk k w) ∧ p.length ≤ m ∧ HOk (N + 400) h' ∧ callF Ir.P fu (n+5) 48 [.loc 0, .d (.int k), .d (.int m)] [.lst h] = .ok (.d (progD p)) [.lst h'] := by
  obtain ⟨r, h1, e1, r0, r1, k1⟩ := F37 (n := n+3) (T := [.lst []]) (m := (m : Int) + 1) (h := h) (N := N) (by omega) hh (by omega) (Int.lt_of_le_of_lt (show ((m : Nat) : Int) + 1 ≤ 11 by omega) (by decide))
  obtain ⟨t, rfl⟩ : ∃ t : Nat, r = (t : Int) := ⟨r.toNat, by omega⟩
  generalize hC : (Ctx.mk (callF Ir.P fu (n+4)) Ir.P fu) = C
  obtain ⟨p, h2, o4, o5, e2, l2, rk, k2⟩ := F48_loop (n := n+1) (C := C) hC.symm (k := k) (m := m) hk1 hk ((List.range t).map fun i => .int (i : Nat)) [] (N+1) h1 none none k1 (by simp; omega) (by simp; omega) (by simp)
  simp only [List.length_map, List.length_range, List.length_nil, Nat.zero_add] at l2 k2
  refine ⟨p, h2, rk, by omega, k2.up (by omega), ?_⟩
  have e1' : C.call 37 [.loc 0, .d (.int ((m : Int) + 1))] [.lst h, .lst []] = .ok (.d (.int t)) [.lst h1, .lst []] := by rw [← hC]; exact e1
  rw [run (fd := Ir.f48) rfl rfl]
  rw [hC]
  have hl : (p.map wrD).length ≤ line := by rw [List.length_map]; exact Nat.le_trans (show p.length ≤ 1000 by omega) (by decide)
  have er : evalI C (.rng (.call 37 (.cons (.var 0) (.cons (.bin .add (.var 2) (.int 1)) .nil)))) [some (.loc 0), some (.d (.int k)), some (.d (.int m)), some (.loc 1), none, none, none] [.lst h, .lst []] = .ok (.fix ((List.range t).map fun i => .int (i : Nat))) [.lst h1, .lst []] :=
    ev_rng (by omega) (g48_2 e1')
  have sf : execS C (.for_ (.nm 4) (.rng (.call 37 (.cons (.var 0) (.cons (.bin .add (.var 2) (.int 1)) .nil)))) body48) [some (.loc 0), some (.d (.int k)), some (.d (.int m)), some (.loc 1), none, none, none] [.lst h, .lst []] = .ok (.nx (eta48 k m o4 o5)) [.lst h2, .lst (p.map wrD)] := by
    rw [x_for, er, Res.bind_ok]
    exact e2
  have body : execSs C Ir.f48.body (startE Ir.f48.N.length [.loc 0, .d (.int k), .d (.int m)]) [.lst h] = .ok (.ret (.d (progD p))) [.lst h2, .lst (p.map wrD)] := by
    refine (ss_step (g48_1 (S := []))).trans ?_
    refine (ss_step sf).trans ?_
    rw [ss_cons', g48_3 hl, Res.bind_ok]
    rfl
  rw [body]
  exact fin_loc
end P49
namespace P49
open RI
variable {n : Nat}
def absD : D → D | .int x => .int (if x < 0 then -x else x) | d => d
theorem g36_1 {C : Ctx} {xs : List Int} (hx : xs.length ≤ 63) :
    (evalP C (.lc (.bi .abs (.cons (.bi .int (.cons (.var 2) .nil)) .nil)) [2] (.nm 2) (.seq (.sl (.var 0) .no (.yes (.int 63)))) .no)).1 [some (.scr xs), none, none] [] = .ok (.d (.lst ((xs.map fun x => if x < 0 then -x else x).map .int))) [] := by
  have hl : xs.length ≤ line := Nat.le_trans (show xs.length ≤ 1000 by omega) (by decide)
  have hsl : cut (xs.map D.int) none (some 63) = xs.map D.int := by
    rw [show (some (63 : Int)) = some ((63 : Nat) : Int) from rfl, cut_to]
    exact List.take_of_length_le (by simpa using hx)
  have key := lc_nm (C := C) (i := 2) (e := .bi .abs (.cons (.bi .int (.cons (.var 2) .nil)) .nil)) (η := [some (.scr xs), none, none]) (S := []) absD (xs := xs.map .int) (by simpa using hl) (by simp) (by
    intro x hx
    obtain ⟨i, _, rfl⟩ := List.mem_map.mp hx
    simp [getV, biD, absD])
  have hit : evalI C (.seq (.sl (.var 0) .no (.yes (.int 63)))) [some (.scr xs), none, none] [] = .ok (.fix (xs.map .int)) [] := by
    simp [evalI, getV, slD, seqOf, hsl]
  rw [ev_lc', hit, Res.bind_ok, show wipeE [some (.scr xs), none, none] [2] = [some (.scr xs), none, none] from rfl, key]
  simp [absD]
theorem F36 {xs : List Int} (hx : xs.length ≤ 63) : ∃ h, HOk 0 h ∧ callF Ir.P fu (n+1) 36 [.scr xs] [] = .ok (.loc 0) [.lst h] := by
  have hl : xs.length ≤ line := Nat.le_trans (show xs.length ≤ 1000 by omega) (by decide)
  refine ⟨[.lst ((xs.map fun x => if x < 0 then -x else x).map .int), .int 0, .int 0, .int (1 + xs.length), .int 0], ⟨⟨_, 0, 0, 1 + xs.length, 0, rfl, ?_, by decide, by decide, by omega, by omega, by decide, by decide⟩⟩, ?_⟩
  · intro c hc
    obtain ⟨x, _, rfl⟩ := List.mem_map.mp hc
    split <;> omega
  rw [run (fd := Ir.f36) rfl rfl]
  generalize (Ctx.mk (callF Ir.P fu n) Ir.P fu) = C
  have s1 : execS C (.asg (.nm 1) (.lc (.bi .abs (.cons (.bi .int (.cons (.var 2) .nil)) .nil)) [2] (.nm 2) (.seq (.sl (.var 0) .no (.yes (.int 63)))) .no)) [some (.scr xs), none, none] [] = .ok (.nx [some (.scr xs), some (.d (.lst ((xs.map fun x => if x < 0 then -x else x).map .int))), none]) [] := asg_nm (g36_1 hx) (by simp)
  have body : execSs C Ir.f36.body (startE Ir.f36.N.length [.scr xs]) [] = .ok (.ret (.loc 0)) [.lst [.lst ((xs.map fun x => if x < 0 then -x else x).map .int), .int 0, .int 0, .int (1 + xs.length), .int 0]] := by
    refine (ss_step s1).trans ?_
    simp [getV, biD, binD, addD, intC, seqOf, thawD, hl]
  rw [body]
  rfl
end P49
namespace P49
open RI
section
variable {cf : Nat → List W → Store → Res W} {ff : Nat} {S S' : Store} {sc : W} {rows : List (Option (List Num))} {locked : List Int} {spare : Int} {o2 o3 o4 o5 o6 o7 o8 o9 : Option W} {t : List Nat}
abbrev CC (cf : Nat → List W → Store → Res W) (ff : Nat) : Ctx := ⟨cf, Ir.P, ff⟩
abbrev eta49 (sc : W) (o2 o3 o4 o5 : Option W) (R K s : D) (o9 : Option W) : Env := [some sc, some (.loc 0), o2, o3, o4, o5, some (.d R), some (.d K), some (.d s), o9]
theorem t1 {R K s : D} (e : cf 43 [.loc 0, .d (.int 6), .d (.bl true)] S = .ok (.d (.tup [R, K, s])) S') :
    execS (CC cf ff) (.asg (.tup (.cons (.nm 6) (.cons (.nm 7) (.cons (.nm 8) .nil)))) (.call 43 (.cons (.var 1) (.cons (.int 6) (.cons (.bl true) .nil))))) [some sc, some (.loc 0), o2, o3, o4, o5, o6, o7, o8, o9] S = .ok (.nx (eta49 sc o2 o3 o4 o5 R K s o9)) S' := by
  simp [getV, e, seqOf]
theorem t2 {R K s w t : D} (e1 : mkW (CC cf ff) 4 [.d R, .d K, .d s] S = .ok (.d w) S) (e2 : cf 46 [.d R, .d K, .d s] S = .ok (.d t) S) :
    execS (CC cf ff) (.par [9, 5] (.cons (.mk 4 (.cons (.var 6) (.cons (.var 7) (.cons (.var 8) .nil)))) (.cons (.call 46 (.cons (.var 6) (.cons (.var 7) (.cons (.var 8) .nil)))) .nil))) (eta49 sc o2 o3 o4 o5 R K s o9) S = .ok (.nx (eta49 sc o2 o3 o4 (some (.d t)) R K s (some (.d w)))) S := by
  simp [getV, e1, e2, setNs]
theorem t3 {R K s w t : D} (e1 : cf 24 [.d w] S = .ok (.d t) S) (e2 : cf 38 [.d t, .d t] S = .ok (.d (.bl true)) S) :
    execS (CC cf ff) (.ife (.not (.call 38 (.cons (.call 24 (.cons (.var 9) .nil)) (.cons (.var 5) .nil)))) (.cons (.ret (.bl false)) .nil) .nil) (eta49 sc o2 o3 o4 (some (.d t)) R K s (some (.d w))) S = .ok (.nx (eta49 sc o2 o3 o4 (some (.d t)) R K s (some (.d w)))) S := by
  simp [getV, e1, e2, truthy]
theorem t4 {R K s w t : D} (e1 : cf 33 [.d t] S = .ok (.d w) S) :
    execS (CC cf ff) (.asg (.nm 3) (.call 33 (.cons (.var 5) .nil))) (eta49 sc o2 o3 o4 (some (.d t)) R K s o9) S = .ok (.nx (eta49 sc o2 (some (.d w)) o4 (some (.d t)) R K s o9)) S := by
  simp [getV, e1]
theorem t5 {R K s : D} {t : List Nat} (ht : okS t = true) (e1 : cf 24 [.d (wishD rows locked spare)] S = .ok (.d (.str t)) S) (e2 : cf 13 [.d (wishD rows locked spare), .d (wishD rows locked spare)] S = .ok (.d (.bl true)) S) :
    execS (CC cf ff) (.ife (.or (.cons (.not (.isi (.var 3) [.cls 4])) (.cons (.cmp .ne (.var 3) (.var 9)) (.cons (.cmp .ne (.call 24 (.cons (.var 3) .nil)) (.var 5)) .nil)))) (.cons (.ret (.bl false)) .nil) .nil) (eta49 sc o2 (some (.d (wishD rows locked spare))) o4 (some (.d (.str t))) R K s (some (.d (wishD rows locked spare)))) S = .ok (.nx (eta49 sc o2 (some (.d (wishD rows locked spare))) o4 (some (.d (.str t))) R K s (some (.d (wishD rows locked spare))))) S := by
  have h2 : cmpW (CC cf ff) .ne (.d (wishD rows locked spare)) (.d (wishD rows locked spare)) S = .ok (.d (.bl false)) S := by
    have e3 := e2
    simp only [wishD] at e3 ⊢
    simp [cmpW, eqOwn, clsOf, show Ir.P.cls[4]? = some { name := "Wish", init := some 12, meths := [(0, 13)], frozen := true, sups := [4], exc := none } from rfl, lookN, e3]
  have h3 : cmpW (CC cf ff) .ne (.d (.str t)) (.d (.str t)) S = .ok (.d (.bl false)) S := by
    simp [cmpW, eqOwn, clsOf, cmpD, eqD, pyEq_str ht ht]
  have h1 : (evalP (CC cf ff) (.isi (.var 3) [.cls 4])).1 (eta49 sc o2 (some (.d (wishD rows locked spare))) o4 (some (.d (.str t))) R K s (some (.d (wishD rows locked spare)))) S = .ok (.d (.bl true)) S := by
    simp [getV, wishD, tyName, tyOk0, tyIs, show ordC Ir.P 4 = true from rfl, show Ir.P.cls[4]? = some { name := "Wish", init := some 12, meths := [(0, 13)], frozen := true, sups := [4], exc := none } from rfl]
  have h1' : (evalP (CC cf ff) (.isi (.var 3) [.cls 4])).2 (eta49 sc o2 (some (.d (wishD rows locked spare))) o4 (some (.d (.str t))) R K s (some (.d (wishD rows locked spare)))) S = .ok true S := by
    rw [ev_isi_t, h1]; rfl
  have h4 : (evalP (CC cf ff) (.or (.cons (.not (.isi (.var 3) [.cls 4])) (.cons (.cmp .ne (.var 3) (.var 9)) (.cons (.cmp .ne (.call 24 (.cons (.var 3) .nil)) (.var 5)) .nil))))).2 (eta49 sc o2 (some (.d (wishD rows locked spare))) o4 (some (.d (.str t))) R K s (some (.d (wishD rows locked spare)))) S = .ok false S := by
    rw [ev_or, or2, ev_not2, h1']
    simp [getV, e1, h2, h3, truthy]
  rw [ife_f h4, ss_nil']
theorem t6 {R K s : D} (e : cf 38 [.d (.lst [.tup (rows.map orowD), intsD locked, .int spare]), .d (.lst [.tup (rows.map orowD), intsD locked, .int spare])] S = .ok (.d (.bl true)) S) :
    execS (CC cf ff) (.ife (.not (.call 38 (.cons (.lst (.cons (.fld (.var 3) 5) (.cons (.fld (.var 3) 4) (.cons (.fld (.var 3) 3) .nil)))) (.cons (.lst (.cons (.var 6) (.cons (.var 7) (.cons (.var 8) .nil)))) .nil)))) (.cons (.ret (.bl false)) .nil) .nil) (eta49 sc o2 (some (.d (wishD rows locked spare))) o4 o5 (.tup (rows.map orowD)) (intsD locked) (.int spare) o9) S = .ok (.nx (eta49 sc o2 (some (.d (wishD rows locked spare))) o4 o5 (.tup (rows.map orowD)) (intsD locked) (.int spare) o9)) S := by
  simp [getV, wishD, fldD, lookN, e, truthy, show ordC Ir.P 4 = true from rfl, show Ir.P.cls[4]? = some { name := "Wish", init := some 12, meths := [(0, 13)], frozen := true, sups := [4], exc := none } from rfl]
theorem t7 {x : D} {K : D} (hl : rows.length ≤ line) (e : cf 48 [.loc 0, .d (.int (rows.length + spare)), .d (.int 10)] S = .ok (.d x) S') :
    execS (CC cf ff) (.asg (.nm 4) (.call 48 (.cons (.var 1) (.cons (.bin .add (.bi .len (.cons (.var 6) .nil)) (.var 8)) (.cons (.int 10) .nil))))) (eta49 sc o2 o3 o4 o5 (.tup (rows.map orowD)) K (.int spare) o9) S = .ok (.nx (eta49 sc o2 o3 (some (.d x)) o5 (.tup (rows.map orowD)) K (.int spare) o9)) S' := by
  simp [getV, biD, binD, addD, seqOf, hl, e]
end
end P49
namespace P49
open RI
section
variable {cf : Nat → List W → Store → Res W} {ff : Nat} {S S' : Store} {sc : W} {rows : List (Option (List Num))} {locked : List Int} {spare : Int} {o2 o3 o4 o5 o6 o7 o8 o9 : Option W} {R K s w x : D}
theorem t9 {t : D} (e1 : cf 47 [.d x] S = .ok (.d t) S) :
    execS (CC cf ff) (.asg (.nm 5) (.call 47 (.cons (.var 4) .nil))) (eta49 sc o2 o3 (some (.d x)) o5 R K s o9) S = .ok (.nx (eta49 sc o2 o3 (some (.d x)) (some (.d t)) R K s o9)) S := by
  simp [getV, e1]
theorem t10 {t : D} (e1 : cf 25 [.d x] S = .ok (.d t) S) (e2 : cf 38 [.d t, .d t] S = .ok (.d (.bl true)) S) (e3 : cf 35 [.d w, .d t] S = .ok (.d x) S) (e4 : cf 38 [.d x, .d x] S = .ok (.d (.bl true)) S) :
    execS (CC cf ff) (.ife (.or (.cons (.not (.call 38 (.cons (.call 25 (.cons (.var 4) .nil)) (.cons (.var 5) .nil)))) (.cons (.not (.call 38 (.cons (.call 35 (.cons (.var 9) (.cons (.var 5) .nil))) (.cons (.var 4) .nil)))) .nil))) (.cons (.ret (.bl false)) .nil) .nil) (eta49 sc o2 o3 (some (.d x)) (some (.d t)) R K s (some (.d w))) S = .ok (.nx (eta49 sc o2 o3 (some (.d x)) (some (.d t)) R K s (some (.d w)))) S := by
  simp [getV, e1, e2, e3, e4, truthy]
theorem t11 {t : List Nat} (ht : okS t = true) (e1 : cf 25 [.d x] S = .ok (.d (.str t)) S) (e3 : cf 35 [.d (wishD rows locked spare), .d (.str t)] S = .ok (.d x) S) :
    execS (CC cf ff) (.ife (.or (.cons (.cmp .ne (.fld (.var 9) 5) (.var 6)) (.cons (.cmp .ne (.call 25 (.cons (.call 35 (.cons (.var 9) (.cons (.var 5) .nil))) .nil)) (.var 5)) .nil))) (.cons (.ret (.bl false)) .nil) .nil) (eta49 sc o2 o3 (some (.d x)) (some (.d (.str t))) (.tup (rows.map orowD)) K s (some (.d (wishD rows locked spare)))) S = .ok (.nx (eta49 sc o2 o3 (some (.d x)) (some (.d (.str t))) (.tup (rows.map orowD)) K s (some (.d (wishD rows locked spare))))) S := by
  have h3 : cmpW (CC cf ff) .ne (.d (.str t)) (.d (.str t)) S = .ok (.d (.bl false)) S := by
    simp [cmpW, eqOwn, clsOf, cmpD, eqD, pyEq_str ht ht]
  have h2 : cmpW (CC cf ff) .ne (.d (.tup (rows.map orowD))) (.d (.tup (rows.map orowD))) S = .ok (.d (.bl false)) S := by
    simp [cmpW, eqOwn, clsOf, cmpD, eqD, eq_rows]
  have h1 : (evalP (CC cf ff) (.fld (.var 9) 5)).1 (eta49 sc o2 o3 (some (.d x)) (some (.d (.str t))) (.tup (rows.map orowD)) K s (some (.d (wishD rows locked spare)))) S = .ok (.d (.tup (rows.map orowD))) S := by
    simp [getV, wishD, fldD, lookN, show ordC Ir.P 4 = true from rfl, show Ir.P.cls[4]? = some { name := "Wish", init := some 12, meths := [(0, 13)], frozen := true, sups := [4], exc := none } from rfl]
  have h4 : (evalP (CC cf ff) (.or (.cons (.cmp .ne (.fld (.var 9) 5) (.var 6)) (.cons (.cmp .ne (.call 25 (.cons (.call 35 (.cons (.var 9) (.cons (.var 5) .nil))) .nil)) (.var 5)) .nil)))).2 (eta49 sc o2 o3 (some (.d x)) (some (.d (.str t))) (.tup (rows.map orowD)) K s (some (.d (wishD rows locked spare)))) S = .ok false S := by
    rw [ev_or, or2, ev_cmp_t, ev_cmp, h1, Res.bind_ok]
    simp [getV, e1, e3, h2, h3, truthy]
  rw [ife_f h4, ss_nil']
/-! the program sixtyfold -/
abbrev sl60 : IE := .sl (.bin .mul (.var 4) (.int 60)) .no (.yes (.int 60))
abbrev cond60 : IE := .and (.cons (.cmp .gt (.bi .len (.cons (.var 4) .nil)) (.int 0)) (.cons (.cmp .eq (.call 37 (.cons (.var 1) (.cons (.int 12) .nil))) (.int 0)) .nil))
theorem rep_map {α β : Type} (f : α → β) (k : Int) (xs : List α) : rep k (xs.map f) = (rep k xs).map f := by
  simp [rep, List.map_flatten]
theorem rep_mem {α : Type} {k : Int} {xs : List α} {a : α} (h : a ∈ rep k xs) : a ∈ xs := by
  obtain ⟨l, hl, ha⟩ := List.mem_flatten.mp h
  rw [(List.mem_replicate.mp hl).2] at ha
  exact ha
theorem sl60_ev {p : List Wr} (hp : p ≠ []) (hl : p.length ≤ 10) :
    (evalP (CC cf ff) sl60).1 (eta49 sc o2 o3 (some (.d (progD p))) o5 R K s o9) S = .ok (.d (progD ((rep 60 p).take 60))) S := by
  have h1 : mulD (.d (progD p)) (.d (.int 60)) S = some (.tup ((rep 60 p).map wrD)) := by
    have : p.length ≤ 1000 := by omega
    simp [progD, mulD, hp, this, rep_map]
  have h2 : cut ((rep 60 p).map wrD) none (some 60) = ((rep 60 p).take 60).map wrD := by
    rw [show (some (60 : Int)) = some ((60 : Nat) : Int) from rfl, cut_to, List.map_take]
  simp only [progD] at h1
  simp [getV, binD, h1, slD, seqOf, h2, progD]
theorem len_gt {p : List Wr} (hl : p.length ≤ 10) :
    (evalP (CC cf ff) (.cmp .gt (.bi .len (.cons (.var 4) .nil)) (.int 0))).2 (eta49 sc o2 o3 (some (.d (progD p))) o5 R K s o9) S = .ok (decide (0 < p.length)) S := by
  have : p.length ≤ line := Nat.le_trans (show p.length ≤ 1000 by omega) (by decide)
  simp [getV, biD, seqOf, progD, cmpW, cmpD, intC, this, truthy]
theorem t8 {p : List Wr} {k : Nat} (hp : ∀ a ∈ p, WrOk k a) (hl : p.length ≤ 10) {h h' : List D} {r : Int} (e : cf 37 [.loc 0, .d (.int 12)] [.lst h] = .ok (.d (.int r)) [.lst h']) :
    ∃ p' h2, (∀ a ∈ p', WrOk k a) ∧ p'.length ≤ 60 ∧ (h2 = h ∨ h2 = h') ∧ execS (CC cf ff) (.ife cond60 (.cons (.asg (.nm 4) sl60) .nil) .nil) (eta49 sc o2 o3 (some (.d (progD p))) o5 R K s o9) [.lst h] = .ok (.nx (eta49 sc o2 o3 (some (.d (progD p'))) o5 R K s o9)) [.lst h2] := by
  by_cases hn : p = []
  · refine ⟨p, h, hp, by omega, .inl rfl, ?_⟩
    have h1 := len_gt (cf := cf) (ff := ff) (sc := sc) (o2 := o2) (o3 := o3) (o5 := o5) (R := R) (K := K) (s := s) (o9 := o9) (S := [.lst h]) hl
    rw [ife_f (S' := [.lst h]), ss_nil']
    rw [ev_and, and2, h1]
    subst hn
    rfl
  · have h1 := len_gt (cf := cf) (ff := ff) (sc := sc) (o2 := o2) (o3 := o3) (o5 := o5) (R := R) (K := K) (s := s) (o9 := o9) (S := [.lst h]) hl
    rw [decide_eq_true (List.length_pos_iff.mpr hn)] at h1
    have h2 : (evalP (CC cf ff) (.cmp .eq (.call 37 (.cons (.var 1) (.cons (.int 12) .nil))) (.int 0))).2 (eta49 sc o2 o3 (some (.d (progD p))) o5 R K s o9) [.lst h] = .ok (decide (r = 0)) [.lst h'] := by
      by_cases c : r = 0 <;> simp [getV, e, cmpW, cmpD, eqD, pyEq_int, truthy, c, eqOwn, clsOf]
    by_cases c : r = 0
    · refine ⟨(rep 60 p).take 60, h', fun a ha => hp a (rep_mem (List.mem_of_mem_take ha)), by simp; omega, .inr rfl, ?_⟩
      rw [decide_eq_true c] at h2
      rw [ife_t (S' := [.lst h']) (by rw [ev_and, and2, h1, Res.bind_ok, if_pos rfl, and_one, h2]), ss_step (asg_nm (sl60_ev hn hl) (by simp)), ss_nil']
      simp
    · refine ⟨p, h', hp, by omega, .inr rfl, ?_⟩
      rw [decide_eq_false c] at h2
      rw [ife_f (S' := [.lst h']) (by rw [ev_and, and2, h1, Res.bind_ok, if_pos rfl, and_one, h2]), ss_nil']
end
end P49
namespace P49
open RI
theorem joinL_ok : ∀ ts : List (List Nat), (∀ t ∈ ts, okS t = true) → okS (joinL [32] ts) = true
  | [], _ => rfl
  | [t], h => by simpa [joinL] using h t (by simp)
  | t :: u :: r, h => by
    have ih := joinL_ok (u :: r) (fun x hx => h x (List.mem_cons_of_mem _ hx))
    have h1 := h t (by simp)
    simp only [joinL] at ih ⊢
    rw [okS_app, okS_app, h1]
    simpa using ⟨by decide, ih⟩
theorem lineT_ok {ws : List D} (h : WC ws) : okS (lineT ws) = true := by
  unfold lineT
  rw [okS_app, joinL_ok _ (fun t ht => ?_)]
  · decide
  · obtain ⟨w, hw, rfl⟩ := List.mem_map.mp ht
    exact (h.2 w hw).2.2
theorem textT_ok : ∀ L : List (List D), (∀ ws ∈ L, WC ws) → okS (textT L) = true
  | [], _ => rfl
  | a :: L, h => by
    have ih := textT_ok L (fun x hx => h x (List.mem_cons_of_mem _ hx))
    show okS (lineT a ++ textT L) = true
    rw [okS_app, ih, lineT_ok (h a (by simp))]
    rfl
end P49
namespace P49
open RI
abbrev body49 : ISs := (.cons (.asg (.tup (.cons (.nm 6) (.cons (.nm 7) (.cons (.nm 8) .nil)))) (.call 43 (.cons (.var 1) (.cons (.int 6) (.cons (.bl true) .nil))))) (.cons (.par [9, 5] (.cons (.mk 4 (.cons (.var 6) (.cons (.var 7) (.cons (.var 8) .nil)))) (.cons (.call 46 (.cons (.var 6) (.cons (.var 7) (.cons (.var 8) .nil)))) .nil))) (.cons (.ife (.not (.call 38 (.cons (.call 24 (.cons (.var 9) .nil)) (.cons (.var 5) .nil)))) (.cons (.ret (.bl false)) .nil) .nil) (.cons (.asg (.nm 3) (.call 33 (.cons (.var 5) .nil))) (.cons (.ife (.or (.cons (.not (.isi (.var 3) [.cls 4])) (.cons (.cmp .ne (.var 3) (.var 9)) (.cons (.cmp .ne (.call 24 (.cons (.var 3) .nil)) (.var 5)) .nil)))) (.cons (.ret (.bl false)) .nil) .nil) (.cons (.ife (.not (.call 38 (.cons (.lst (.cons (.fld (.var 3) 5) (.cons (.fld (.var 3) 4) (.cons (.fld (.var 3) 3) .nil)))) (.cons (.lst (.cons (.var 6) (.cons (.var 7) (.cons (.var 8) .nil)))) .nil)))) (.cons (.ret (.bl false)) .nil) .nil) (.cons (.asg (.nm 4) (.call 48 (.cons (.var 1) (.cons (.bin .add (.bi .len (.cons (.var 6) .nil)) (.var 8)) (.cons (.int 10) .nil))))) (.cons (.ife (.and (.cons (.cmp .gt (.bi .len (.cons (.var 4) .nil)) (.int 0)) (.cons (.cmp .eq (.call 37 (.cons (.var 1) (.cons (.int 12) .nil))) (.int 0)) .nil))) (.cons (.asg (.nm 4) (.sl (.bin .mul (.var 4) (.int 60)) .no (.yes (.int 60)))) .nil) .nil) (.cons (.asg (.nm 5) (.call 47 (.cons (.var 4) .nil))) (.cons (.ife (.or (.cons (.not (.call 38 (.cons (.call 25 (.cons (.var 4) .nil)) (.cons (.var 5) .nil)))) (.cons (.not (.call 38 (.cons (.call 35 (.cons (.var 9) (.cons (.var 5) .nil))) (.cons (.var 4) .nil)))) .nil))) (.cons (.ret (.bl false)) .nil) .nil) (.cons (.ife (.or (.cons (.cmp .ne (.fld (.var 9) 5) (.var 6)) (.cons (.cmp .ne (.call 25 (.cons (.call 35 (.cons (.var 9) (.cons (.var 5) .nil))) .nil)) (.var 5)) .nil))) (.cons (.ret (.bl false)) .nil) .nil) .nil)))))))))))
theorem turn49 {n N : Nat} {h : List D} {sc : W} {o2 o3 o4 o5 o6 o7 o8 o9 : Option W} (hN : N < 600000000) (hh : HOk N h) :
    ∃ (h' : List D) (o3' o4' o5' o6' o7' o8' o9' : Option W), HOk (N + 1000) h' ∧ execSs (CC (callF Ir.P fu (n+12)) fu) body49 [some sc, some (.loc 0), o2, o3, o4, o5, o6, o7, o8, o9] [.lst h] = .ok (.nx [some sc, some (.loc 0), o2, o3', o4', o5', o6', o7', o8', o9']) [.lst h'] := by
  obtain ⟨rows, locked, spare, h1, w, l6, k1, e43⟩ := F43 (n := n+7) (N := N) (m := 6) (h := h) (by omega) hh (by decide) (by decide)
  have r6 := w.r6
  have r1 := w.r1
  have s0 := w.s0
  have s2 := w.s2
  have hlk6 : ∀ c ∈ locked, 0 ≤ c ∧ c < 6 := fun c hc => by have := w.lk c hc; omega
  have emk := mkWish (n := n+8) (Z := [.lst h1]) w (okIns fun _ => rfl) rfl
  have e46 := F46 (n := n+10) (h := h1) r6 r6 w.row w.len hlk6 ⟨s0, s2⟩
  have e24 := F24 (n := n+9) (h := h1) r6 r6 w.row w.len hlk6 ⟨s0, s2⟩
  have okt : okS (textT (wishL rows locked spare)) = true := textT_ok _ wishL_wc
  have e38 := F38 (S := [.lst h1]) 4 (.str (textT (wishL rows locked spare))) (.str _ okt) (n+7)
  have e33 := F33 (n := n+4) (h := h1) w
  have e13 := F13 (n := n+11) (S := [.lst h1]) (rows := rows) (locked := locked) (spare := spare)
  have pdr : PD 3 (.tup (rows.map orowD)) := .tup (fun x hx => by
    obtain ⟨o, ho, rfl⟩ := List.mem_map.mp hx
    exact pd_orow (d := 0) r6 o (w.row o ho)) (by simp; omega)
  have pdk : PD 3 (intsD locked) := .tup (fun x hx => by
    obtain ⟨i, _, rfl⟩ := List.mem_map.mp hx
    exact .int _) (by have := w.len; simp; omega)
  have pdl : PD 4 (.lst [.tup (rows.map orowD), intsD locked, .int spare]) := .lst (fun x hx => by
    simp at hx
    rcases hx with rfl | rfl | rfl
    · exact pdr
    · exact pdk
    · exact .int _) (by simp)
  have e38l := F38 (S := [.lst h1]) 4 _ pdl (n+7)
  obtain ⟨k, hk⟩ : ∃ k : Nat, (k : Int) = rows.length + spare := ⟨(rows.length + spare).toNat, by omega⟩
  obtain ⟨p, h2, hp, lp, k2, e48⟩ := F48 (n := n+7) (N := N + 200) (k := k) (m := 10) (h := h1) (by omega) k1 (by omega) (by omega) (by decide)
  obtain ⟨r, h3, e37, _, _, k3⟩ := F37 (n := n+11) (T := []) (m := 12) (h := h2) (N := N + 200 + 400) (by omega) k2 (by decide) (by decide)
  obtain ⟨p', h4, hp', lp', hh4, s8⟩ := t8 (cf := callF Ir.P fu (n+12)) (ff := fu) (sc := sc) (o2 := o2) (o3 := some (.d (wishD rows locked spare))) (o5 := some (.d (.str (textT (wishL rows locked spare))))) (R := .tup (rows.map orowD)) (K := intsD locked) (s := .int spare) (o9 := some (.d (wishD rows locked spare))) hp lp e37
  have k4 : HOk (N + 1000) h4 := by
    rcases hh4 with rfl | rfl
    · exact k2.up (by omega)
    · exact k3.up (by omega)
  have k8 : k ≤ 8 := by omega
  have e47 := F47 (n := n+10) (S := [.lst h4]) k8 hp' lp'
  have e25 := F25 (n := n+9) (S := [.lst h4]) k8 hp' lp'
  have okp : okS (textT (p'.map wrL)) = true := textT_ok _ (fun ws hws => by
    obtain ⟨a, ha, rfl⟩ := List.mem_map.mp hws
    exact (wrL_ok k8 (hp' a ha)).2)
  have e38t := F38 (S := [.lst h4]) 4 (.str (textT (p'.map wrL))) (.str _ okp) (n+7)
  have e35 := F35 (n := n+5) (h := h4) (rows := rows) (locked := locked) (spare := spare) hk k8 hp' lp'
  have e38p := F38 (S := [.lst h4]) 4 (progD p') (pd_prog k8 hp' lp') (n+7)
  rw [hk] at e48
  have hl : rows.length ≤ line := Nat.le_trans (show rows.length ≤ 1000 by omega) (by decide)
  simp only [Nat.add_assoc, Nat.reduceAdd] at e43 emk e46 e24 e38 e33 e13 e38l e48 e37 e47 e25 e38t e35 e38p s8
  refine ⟨h4, some (.d (wishD rows locked spare)), some (.d (progD p')), some (.d (.str (textT (p'.map wrL)))), some (.d (.tup (rows.map orowD))), some (.d (intsD locked)), some (.d (.int spare)), some (.d (wishD rows locked spare)), k4, ?_⟩
  generalize callF Ir.P fu (n+12) = cf at *
  have e24' : cf 24 [.d (wishD rows locked spare)] [.lst h1] = .ok (.d (.str (textT (wishL rows locked spare)))) [.lst h1] := e24
  have s1 := t1 (ff := fu) (sc := sc) (o2 := o2) (o3 := o3) (o4 := o4) (o5 := o5) (o6 := o6) (o7 := o7) (o8 := o8) (o9 := o9) e43
  have s2 := t2 (cf := cf) (ff := fu) (sc := sc) (o2 := o2) (o3 := o3) (o4 := o4) (o5 := o5) (o9 := o9) emk e46
  have s3 := t3 (ff := fu) (sc := sc) (o2 := o2) (o3 := o3) (o4 := o4) (R := .tup (rows.map orowD)) (K := intsD locked) (s := .int spare) e24' e38
  have s4 := t4 (ff := fu) (sc := sc) (o2 := o2) (o3 := o3) (o4 := o4) (R := .tup (rows.map orowD)) (K := intsD locked) (s := .int spare) (o9 := some (.d (wishD rows locked spare))) e33
  have s5 := t5 (ff := fu) (sc := sc) (o2 := o2) (o4 := o4) (R := .tup (rows.map orowD)) (K := intsD locked) (s := .int spare) okt e24' e13
  have s6 := t6 (ff := fu) (sc := sc) (o2 := o2) (o4 := o4) (o5 := some (.d (.str (textT (wishL rows locked spare))))) (o9 := some (.d (wishD rows locked spare))) (R := .non) (K := .non) (s := .non) e38l
  have s7 := t7 (ff := fu) (sc := sc) (o2 := o2) (o3 := some (.d (wishD rows locked spare))) (o4 := o4) (o5 := some (.d (.str (textT (wishL rows locked spare))))) (o9 := some (.d (wishD rows locked spare))) (K := intsD locked) hl e48
  have s9 := t9 (ff := fu) (sc := sc) (o2 := o2) (o3 := some (.d (wishD rows locked spare))) (o5 := some (.d (.str (textT (wishL rows locked spare))))) (R := .tup (rows.map orowD)) (K := intsD locked) (s := .int spare) (o9 := some (.d (wishD rows locked spare))) e47
  have s10 := t10 (ff := fu) (sc := sc) (o2 := o2) (o3 := some (.d (wishD rows locked spare))) (R := .tup (rows.map orowD)) (K := intsD locked) (s := .int spare) e25 e38t e35 e38p
  have s11 := t11 (ff := fu) (sc := sc) (o2 := o2) (o3 := some (.d (wishD rows locked spare))) (K := intsD locked) (s := .int spare) okp e25 e35
  rw [ss_step s1, ss_step s2, ss_step s3, ss_step s4, ss_step s5, ss_step s6, ss_step s7, ss_step s8, ss_step s9, ss_step s10, ss_step s11, ss_nil']
end P49
namespace P49
open RI
theorem loop49 {n : Nat} {sc : W} : ∀ (xs : List D) (N : Nat) (h : List D) (o2 o3 o4 o5 o6 o7 o8 o9 : Option W), HOk N h → N + 1000 * xs.length < 600000000 →
    ∃ (h' : List D) (o2' o3' o4' o5' o6' o7' o8' o9' : Option W), HOk (N + 1000 * xs.length) h' ∧ forFix (setT (CC (callF Ir.P fu (n+12)) fu) (.nm 2)) (execSs (CC (callF Ir.P fu (n+12)) fu) body49) xs [some sc, some (.loc 0), o2, o3, o4, o5, o6, o7, o8, o9] [.lst h] = .ok (.nx [some sc, some (.loc 0), o2', o3', o4', o5', o6', o7', o8', o9']) [.lst h']
  | [], N, h, o2, o3, o4, o5, o6, o7, o8, o9, hh, hN => ⟨h, o2, o3, o4, o5, o6, o7, o8, o9, hh, rfl⟩
  | x :: xs, N, h, o2, o3, o4, o5, o6, o7, o8, o9, hh, hN => by
    simp only [List.length_cons] at hN
    obtain ⟨h1, p3, p4, p5, p6, p7, p8, p9, k1, e1⟩ := turn49 (n := n) (sc := sc) (o2 := some (.d x)) (o3 := o3) (o4 := o4) (o5 := o5) (o6 := o6) (o7 := o7) (o8 := o8) (o9 := o9) (N := N) (by omega) hh
    obtain ⟨h', o2', o3', o4', o5', o6', o7', o8', o9', k2, e2⟩ := loop49 (n := n) (sc := sc) xs (N + 1000) h1 (some (.d x)) p3 p4 p5 p6 p7 p8 p9 k1 (by omega)
    refine ⟨h', o2', o3', o4', o5', o6', o7', o8', o9', k2.up (by simp; omega), ?_⟩
    rw [forFix, st_nm, if_pos (by simp), noExc_ok, Res.bind_ok]
    simp only [List.set_cons_succ, List.set_cons_zero]
    rw [e1, Res.bind_ok]
    exact e2
theorem last49 {cf : Nat → List W → Store → Res W} {ff : Nat} {η : Env} {S : Store} {w : D}
    (e1 : cf 25 [.d (progD [])] S = .ok (.d (.str [])) S) (e2 : mkW (CC cf ff) 4 [.d (.tup [.non]), .d (.tup []), .d (.int 0)] S = .ok (.d w) S)
    (e3 : cf 35 [.d w, .d (.str [])] S = .ok (.d (progD [])) S) :
    execS (CC cf ff) (.ret (.and (.cons (.cmp .eq (.call 25 (.cons (.tup .nil) .nil)) (.str [])) (.cons (.cmp .eq (.call 35 (.cons (.mk 4 (.cons (.tup (.cons .non .nil)) (.cons (.tup .nil) (.cons (.int 0) .nil)))) (.cons (.str []) .nil))) (.tup .nil)) .nil)))) η S = .ok (.ret (.d (.bl true))) S := by
  have q1 : cmpW (CC cf ff) .eq (.d (.str [])) (.d (.str [])) S = .ok (.d (.bl true)) S := by
    simp [cmpW, eqOwn, clsOf, cmpD, eqD, pyEq_str (a := []) (b := []) rfl rfl]
  have q2 : cmpW (CC cf ff) .eq (.d (.tup [])) (.d (.tup [])) S = .ok (.d (.bl true)) S := by
    have := eq_rows []
    simp only [List.map_nil] at this
    simp [cmpW, eqOwn, clsOf, cmpD, eqD, this]
  simp only [progD, List.map_nil] at e1 e3
  rw [x_ret, ev_and, and1]
  simp [e1, e2, e3, q1, q2, truthy]
theorem law49 : ∀ xs : List Int, xs.length ≤ 63 → ∃ S', callF Ir.P 10000000000 40 Ir.lawId [.scr xs] [] = .ok (.d (.bl true)) S' := by
  intro xs hx
  obtain ⟨h, k0, e0⟩ := F36 (n := 38) hx
  obtain ⟨h', o2', o3', o4', o5', o6', o7', o8', o9', k2, e2⟩ := loop49 (n := 27) (sc := .scr xs) ((List.range 4).map fun i => .int (i : Nat)) 0 h none none none none none none none none k0 (by simp)
  have w : WOkk [none] [] 0 := { r1 := by simp, r6 := by simp, row := (fun x hx => by simp at hx; subst hx; simp [RowOk]), lk := by simp, inc := rfl, s0 := by simp, s2 := by simp }
  have e25 := F25 (n := 36) (S := [.lst h']) (k := 1) (by simp) (p := []) (by simp) (by simp)
  have emk := mkWish (n := 35) (Z := [.lst h']) w (okIns fun _ => rfl) rfl
  have e35 := F35 (n := 32) (h := h') (rows := [none]) (locked := []) (spare := 0) (k := 1) (by simp) (by simp) (p := []) (by simp) (by simp)
  have hl := last49 (ff := fu) (η := [some (.scr xs), some (.loc 0), o2', o3', o4', o5', o6', o7', o8', o9']) e25 emk e35
  refine ⟨[], ?_⟩
  show callF Ir.P fu (39 + 1) 49 [.scr xs] [] = _
  rw [run (fd := Ir.f49) rfl rfl]
  have e0' : callF Ir.P fu 39 36 [.scr xs] [] = .ok (.loc 0) [.lst h] := e0
  have e2' := e2
  simp only [Nat.reduceAdd] at e2'
  generalize callF Ir.P fu 39 = cf at *
  have body : execSs (CC cf fu) Ir.f49.body (startE Ir.f49.N.length [.scr xs]) [] = .ok (.ret (.d (.bl true))) [.lst h'] := by
    have s1 : execS (CC cf fu) (.asg (.nm 1) (.call 36 (.cons (.var 0) .nil))) [some (.scr xs), none, none, none, none, none, none, none, none, none] [] = .ok (.nx [some (.scr xs), some (.loc 0), none, none, none, none, none, none, none, none]) [.lst h] := by
      simp [getV, e0']
    refine (ss_step s1).trans ?_
    have s2 : execS (CC cf fu) (.for_ (.nm 2) (.rng (.int 4)) body49) [some (.scr xs), some (.loc 0), none, none, none, none, none, none, none, none] [.lst h] = .ok (.nx [some (.scr xs), some (.loc 0), o2', o3', o4', o5', o6', o7', o8', o9']) [.lst h'] := by
      rw [x_for, ev_rng (k := 4) (S1 := [.lst h]) (by decide) rfl, Res.bind_ok]
      exact e2'
    refine (ss_step s2).trans ?_
    rw [ss_cons', hl, Res.bind_ok]
  rw [body]
  rfl
end P49
namespace Dv
open RI PySem PySem.Spec PyProof.Rows L2
def top (i : Nat) : Stmt := PySem.Challenge.pw_oncetwice_k49_whole_texts_there_and_back.main.body.getD i (.Pass ⟨0, 0, 0, 0⟩)
def d0 : He.DefD := ⟨("BadWish", some "__init__"), "__init__", "BadWish.__init__", defArgs (inClass (top 2) 0), defBody (inClass (top 2) 0), defScope (inClass (top 2) 0), [], []⟩
theorem B0 : FnAll Ir.P Ir.names Ir.f0 d0 where
  body := fun G hnm Pm w K mg base fa cdv A outer s H E call fu k S hp => (s_cons (s_fld S rfl hnm rfl (q_var rfl rfl rfl) (q_var rfl rfl rfl))
  s_nil)
  sc := ⟨rfl, rfl, rfl, by decide +kernel, rfl, by decide +kernel, by decide +kernel⟩
  bd := fun _ _ _ _ _ _ us hl => match us, hl with | [_, _], _ => rfl
  dfl := ⟨rfl, rfl⟩
  le := by decide
def d1 : He.DefD := ⟨("BadText", some "__init__"), "__init__", "BadText.__init__", defArgs (inClass (top 4) 0), defBody (inClass (top 4) 0), defScope (inClass (top 4) 0), [], []⟩
theorem B1 : FnAll Ir.P Ir.names Ir.f1 d1 where
  body := fun G hnm Pm w K mg base fa cdv A outer s H E call fu k S hp => (s_cons (s_fld S rfl hnm rfl (q_var rfl rfl rfl) (q_var rfl rfl rfl))
  s_nil)
  sc := ⟨rfl, rfl, rfl, by decide +kernel, rfl, by decide +kernel, by decide +kernel⟩
  bd := fun _ _ _ _ _ _ us hl => match us, hl with | [_, _], _ => rfl
  dfl := ⟨rfl, rfl⟩
  le := by decide
def d2 : He.DefD := ⟨("is_integer", none), "is_integer", "is_integer", defArgs (top 6), defBody (top 6), defScope (top 6), [], []⟩
theorem B2 : FnAll Ir.P Ir.names Ir.f2 d2 where
  body := fun G hnm Pm w K mg base fa cdv A outer s H E call fu k S hp => (s_cons (s_ret (e_and (e_and2 S (e_isi S rfl (q_var rfl rfl rfl) (ty_b S rfl)) (e_one (e_not S (e_isi S rfl (q_var rfl rfl rfl) (ty_b S rfl)))))))
  s_nil)
  sc := ⟨rfl, rfl, rfl, by decide +kernel, rfl, by decide +kernel, by decide +kernel⟩
  bd := fun _ _ _ _ _ _ us hl => match us, hl with | [_], _ => rfl
  dfl := ⟨rfl, rfl⟩
  le := by decide
def d3 : He.DefD := ⟨("is_within", none), "is_within", "is_within", defArgs (top 7), defBody (top 7), defScope (top 7), [], []⟩
theorem B3 : FnAll Ir.P Ir.names Ir.f3 d3 where
  body := fun G hnm Pm w K mg base fa cdv A outer s H E call fu k S hp => (s_cons (s_ret (e_and (e_and2 S (e_call S rfl rfl rfl rfl rfl (es_cons (q_var rfl rfl rfl) es_nil)) (e_one (e_chain S (q_var rfl rfl rfl) (q_var rfl rfl rfl) (q_var rfl rfl rfl))))))
  s_nil)
  sc := ⟨rfl, rfl, rfl, by decide +kernel, rfl, by decide +kernel, by decide +kernel⟩
  bd := fun _ _ _ _ _ _ us hl => match us, hl with | [_, _, _], _ => rfl
  dfl := ⟨rfl, rfl⟩
  le := by decide
def d4 : He.DefD := ⟨("is_pair", none), "is_pair", "is_pair", defArgs (top 8), defBody (top 8), defScope (top 8), [], []⟩
theorem B4 : FnAll Ir.P Ir.names Ir.f4 d4 where
  body := fun G hnm Pm w K mg base fa cdv A outer s H E call fu k S hp => (s_cons (s_ret (e_and (e_and2 S (e_isi S rfl (q_var rfl rfl rfl) (ty_b S rfl)) (e_one (e_eq S (e_biB S rfl (ha := (es_cons (q_var rfl rfl rfl) es_nil))) e_int)))))
  s_nil)
  sc := ⟨rfl, rfl, rfl, by decide +kernel, rfl, by decide +kernel, by decide +kernel⟩
  bd := fun _ _ _ _ _ _ us hl => match us, hl with | [_], _ => rfl
  dfl := ⟨rfl, rfl⟩
  le := by decide
def d5 : He.DefD := ⟨("is_sized", none), "is_sized", "is_sized", defArgs (top 9), defBody (top 9), defScope (top 9), [], []⟩
theorem B5 : FnAll Ir.P Ir.names Ir.f5 d5 where
  body := fun G hnm Pm w K mg base fa cdv A outer s H E call fu k S hp => (s_cons (s_ret (e_and (e_and2 S (e_isi S rfl (q_var rfl rfl rfl) (ty_b S rfl)) (e_one (e_chain S (q_var rfl rfl rfl) (e_biB S rfl (ha := (es_cons (q_var rfl rfl rfl) es_nil))) (q_var rfl rfl rfl))))))
  s_nil)
  sc := ⟨rfl, rfl, rfl, by decide +kernel, rfl, by decide +kernel, by decide +kernel⟩
  bd := fun _ _ _ _ _ _ us hl => match us, hl with | [_, _, _], _ => rfl
  dfl := ⟨rfl, rfl⟩
  le := by decide
def d6 : He.DefD := ⟨("is_lot", none), "is_lot", "is_lot", defArgs (top 10), defBody (top 10), defScope (top 10), [], []⟩
theorem B6 : FnAll Ir.P Ir.names Ir.f6 d6 where
  body := fun G hnm Pm w K mg base fa cdv A outer s H E call fu k S hp => (s_cons (s_if (t_or (w_or (t_not (t_val S (e_isi S rfl (q_var rfl rfl rfl) (ty_b S rfl)))) (w_oneO (t_not (t_val S (e_biB S rfl (ha := (es_cons (e_lc S (blkOk_by (own := [("item", 4)]) (by show blkC Ir.f6.N d6.scope _ _ = true; decide +kernel)) rfl (i_seq S (q_var rfl rfl rfl)) (fun _ _ _ _ _ S => (q_nm S rfl rfl rfl)) (fun _ _ _ _ _ S => c_none) (fun _ _ _ _ _ S => (e_call S rfl rfl rfl rfl rfl (es_cons (q_var rfl rfl rfl) (es_cons e_int (es_cons (e_bin S (q_var rfl rfl rfl) e_int) es_nil)))))) es_nil))))))))
  (s_cons (s_ret e_bl)
  s_nil)
  s_nil)
  (s_cons (s_ret (e_biB S rfl (ha := (es_cons (e_lc S (blkOk_by (own := [("one", 2), ("other", 3)]) (by show blkC Ir.f6.N d6.scope _ _ = true; decide +kernel)) rfl (i_zip S rfl (q_var rfl rfl rfl) (e_sl S (q_var rfl rfl rfl) (o_some e_int) o_none)) (fun _ _ _ _ _ S => (g_tup S (gs_cons (q_nm S rfl rfl rfl) (gs_cons (q_nm S rfl rfl rfl) gs_nil)))) (fun _ _ _ _ _ S => c_none) (fun _ _ _ _ _ S => (e_cmp S (q_var rfl rfl rfl) (q_var rfl rfl rfl)))) es_nil))))
  s_nil))
  sc := ⟨rfl, rfl, rfl, by decide +kernel, rfl, by decide +kernel, by decide +kernel⟩
  bd := fun _ _ _ _ _ _ us hl => match us, hl with | [_, _], _ => rfl
  dfl := ⟨rfl, rfl⟩
  le := by decide
def d7 : He.DefD := ⟨("divisor", none), "divisor", "divisor", defArgs (top 13), defBody (top 13), defScope (top 13), [], []⟩
theorem B7 : FnAll Ir.P Ir.names Ir.f7 d7 where
  body := fun G hnm Pm w K mg base fa cdv A outer s H E call fu k S hp => (s_cons (s_par S rfl rfl (es_cons (e_biB S rfl (ha := (es_cons (q_var rfl rfl rfl) es_nil))) (es_cons (e_biB S rfl (ha := (es_cons (q_var rfl rfl rfl) es_nil))) es_nil)))
  (s_cons (s_while hp (t_eq S (q_var rfl rfl rfl) e_int)
  (s_cons (s_par S rfl rfl (es_cons (q_var rfl rfl rfl) (es_cons (e_bin S (q_var rfl rfl rfl) (q_var rfl rfl rfl)) es_nil)))
  s_nil))
  (s_cons (s_ret (q_var rfl rfl rfl))
  s_nil)))
  sc := ⟨rfl, rfl, rfl, by decide +kernel, rfl, by decide +kernel, by decide +kernel⟩
  bd := fun _ _ _ _ _ _ us hl => match us, hl with | [_, _], _ => rfl
  dfl := ⟨rfl, rfl⟩
  le := by decide
def d8 : He.DefD := ⟨("is_number", none), "is_number", "is_number", defArgs (top 14), defBody (top 14), defScope (top 14), [], []⟩
theorem B8 : FnAll Ir.P Ir.names Ir.f8 d8 where
  body := fun G hnm Pm w K mg base fa cdv A outer s H E call fu k S hp => (s_cons (s_if (t_or (w_or (t_not (t_val S (e_call S rfl rfl rfl rfl rfl (es_cons (q_var rfl rfl rfl) es_nil)))) (w_or (t_not (t_val S (e_call S rfl rfl rfl rfl rfl (es_cons (e_ix S (q_var rfl rfl rfl) e_int) es_nil)))) (w_oneO (t_not (t_val S (e_call S rfl rfl rfl rfl rfl (es_cons (e_ix S (q_var rfl rfl rfl) e_int) es_nil))))))))
  (s_cons (s_ret e_bl)
  s_nil)
  s_nil)
  (s_cons (s_ret (e_and (e_and2 S (e_cmp S (e_ix S (q_var rfl rfl rfl) e_int) e_int) (e_one (e_eq S (e_call S rfl rfl rfl rfl rfl (es_cons (e_ix S (q_var rfl rfl rfl) e_int) (es_cons (e_ix S (q_var rfl rfl rfl) e_int) es_nil))) e_int)))))
  s_nil))
  sc := ⟨rfl, rfl, rfl, by decide +kernel, rfl, by decide +kernel, by decide +kernel⟩
  bd := fun _ _ _ _ _ _ us hl => match us, hl with | [_], _ => rfl
  dfl := ⟨rfl, rfl⟩
  le := by decide
def d9 : He.DefD := ⟨("is_row", none), "is_row", "is_row", defArgs (top 15), defBody (top 15), defScope (top 15), [], []⟩
theorem B9 : FnAll Ir.P Ir.names Ir.f9 d9 where
  body := fun G hnm Pm w K mg base fa cdv A outer s H E call fu k S hp => (s_cons (s_ret (e_and (e_and2 S (e_isi S rfl (q_var rfl rfl rfl) (ty_b S rfl)) (e_and2 S (e_eq S (e_biB S rfl (ha := (es_cons (q_var rfl rfl rfl) es_nil))) (q_var rfl rfl rfl)) (e_one (e_biB S rfl (ha := (es_cons (e_lc S (blkOk_by (own := [("item", 2)]) (by show blkC Ir.f9.N d9.scope _ _ = true; decide +kernel)) rfl (i_seq S (q_var rfl rfl rfl)) (fun _ _ _ _ _ S => (q_nm S rfl rfl rfl)) (fun _ _ _ _ _ S => c_none) (fun _ _ _ _ _ S => (e_call S rfl rfl rfl rfl rfl (es_cons (q_var rfl rfl rfl) es_nil)))) es_nil))))))))
  s_nil)
  sc := ⟨rfl, rfl, rfl, by decide +kernel, rfl, by decide +kernel, by decide +kernel⟩
  bd := fun _ _ _ _ _ _ us hl => match us, hl with | [_, _], _ => rfl
  dfl := ⟨rfl, rfl⟩
  le := by decide
def d10 : He.DefD := ⟨("lowest", none), "lowest", "lowest", defArgs (top 16), defBody (top 16), defScope (top 16), [], []⟩
theorem B10 : FnAll Ir.P Ir.names Ir.f10 d10 where
  body := fun G hnm Pm w K mg base fa cdv A outer s H E call fu k S hp => (s_cons (q_set S rfl rfl rfl (e_ifx (t_cmp S (q_var rfl rfl rfl) e_int) (e_call S rfl rfl rfl rfl rfl (es_cons (q_var rfl rfl rfl) (es_cons (q_var rfl rfl rfl) es_nil))) (e_neg (e_call S rfl rfl rfl rfl rfl (es_cons (q_var rfl rfl rfl) (es_cons (q_var rfl rfl rfl) es_nil))))) rfl)
  (s_cons (s_ret (e_tup (es_cons (e_bin S (q_var rfl rfl rfl) (q_var rfl rfl rfl)) (es_cons (e_bin S (q_var rfl rfl rfl) (q_var rfl rfl rfl)) es_nil))))
  s_nil))
  sc := ⟨rfl, rfl, rfl, by decide +kernel, rfl, by decide +kernel, by decide +kernel⟩
  bd := fun _ _ _ _ _ _ us hl => match us, hl with | [_, _], _ => rfl
  dfl := ⟨rfl, rfl⟩
  le := by decide
def d11 : He.DefD := ⟨("times", none), "times", "times", defArgs (top 17), defBody (top 17), defScope (top 17), [], []⟩
theorem B11 : FnAll Ir.P Ir.names Ir.f11 d11 where
  body := fun G hnm Pm w K mg base fa cdv A outer s H E call fu k S hp => (s_cons (s_ret (e_call S rfl rfl rfl rfl rfl (es_cons (e_bin S (e_ix S (q_var rfl rfl rfl) e_int) (e_ix S (q_var rfl rfl rfl) e_int)) (es_cons (e_bin S (e_ix S (q_var rfl rfl rfl) e_int) (e_ix S (q_var rfl rfl rfl) e_int)) es_nil))))
  s_nil)
  sc := ⟨rfl, rfl, rfl, by decide +kernel, rfl, by decide +kernel, by decide +kernel⟩
  bd := fun _ _ _ _ _ _ us hl => match us, hl with | [_, _], _ => rfl
  dfl := ⟨rfl, rfl⟩
  le := by decide
def d12 : He.DefD := ⟨("Wish", some "__init__"), "__init__", "Wish.__init__", defArgs (inClass (top 22) 0), defBody (inClass (top 22) 0), defScope (inClass (top 22) 0), [], []⟩
theorem B12 : FnAll Ir.P Ir.names Ir.f12 d12 where
  body := fun G hnm Pm w K mg base fa cdv A outer s H E call fu k S hp => (s_cons (s_if (t_not (t_val S (e_call S rfl rfl rfl rfl rfl (es_cons (q_var rfl rfl rfl) (es_cons e_int (es_cons (e_glob S rfl rfl rfl) es_nil))))))
  (s_cons s_never
  s_nil)
  s_nil)
  (s_cons (s_for S hp (i_en S rfl (q_var rfl rfl rfl)) (g_tup S (gs_cons (q_nm S rfl rfl rfl) (gs_cons (q_nm S rfl rfl rfl) gs_nil)))
  (s_cons (s_if (t_and (w_and (t_isnt (q_var rfl rfl rfl)) (w_one (t_not (t_val S (e_call S rfl rfl rfl rfl rfl (es_cons (q_var rfl rfl rfl) (es_cons (e_biB S rfl (ha := (es_cons (q_var rfl rfl rfl) es_nil))) es_nil))))))))
  (s_cons s_never
  s_nil)
  s_nil)
  s_nil))
  (s_cons (s_if (t_not (t_val S (e_call S rfl rfl rfl rfl rfl (es_cons (q_var rfl rfl rfl) (es_cons (e_biB S rfl (ha := (es_cons (q_var rfl rfl rfl) es_nil))) es_nil)))))
  (s_cons s_never
  s_nil)
  s_nil)
  (s_cons (s_if (t_not (t_val S (e_call S rfl rfl rfl rfl rfl (es_cons (q_var rfl rfl rfl) (es_cons e_int (es_cons (e_glob S rfl rfl rfl) es_nil))))))
  (s_cons s_never
  s_nil)
  s_nil)
  (s_cons (s_fld S rfl hnm rfl (q_var rfl rfl rfl) (q_var rfl rfl rfl))
  (s_cons (s_fld S rfl hnm rfl (q_var rfl rfl rfl) (q_var rfl rfl rfl))
  (s_cons (s_fld S rfl hnm rfl (q_var rfl rfl rfl) (q_var rfl rfl rfl))
  s_nil)))))))
  sc := ⟨rfl, rfl, rfl, by decide +kernel, rfl, by decide +kernel, by decide +kernel⟩
  bd := fun _ _ _ _ _ _ us hl => match us, hl with | [_, _, _, _], _ => rfl
  dfl := ⟨rfl, rfl⟩
  le := by decide
def d13 : He.DefD := ⟨("Wish", some "__eq__"), "__eq__", "Wish.__eq__", defArgs (inClass (top 22) 1), defBody (inClass (top 22) 1), defScope (inClass (top 22) 1), [], []⟩
theorem B13 : FnAll Ir.P Ir.names Ir.f13 d13 where
  body := fun G hnm Pm w K mg base fa cdv A outer s H E call fu k S hp => (s_cons (s_if (t_not (t_val S (e_isi S rfl (q_var rfl rfl rfl) (ty_c S rfl rfl rfl))))
  (s_cons (s_ret e_bl)
  s_nil)
  s_nil)
  (s_cons (s_ret (e_and (e_and2 S (e_eq S (q_fld S rfl hnm rfl (q_var rfl rfl rfl)) (q_fld S rfl hnm rfl (q_var rfl rfl rfl))) (e_and2 S (e_eq S (q_fld S rfl hnm rfl (q_var rfl rfl rfl)) (q_fld S rfl hnm rfl (q_var rfl rfl rfl))) (e_one (e_eq S (q_fld S rfl hnm rfl (q_var rfl rfl rfl)) (q_fld S rfl hnm rfl (q_var rfl rfl rfl))))))))
  s_nil))
  sc := ⟨rfl, rfl, rfl, by decide +kernel, rfl, by decide +kernel, by decide +kernel⟩
  bd := fun _ _ _ _ _ _ us hl => match us, hl with | [_, _], _ => rfl
  dfl := ⟨rfl, rfl⟩
  le := by decide
def d14 : He.DefD := ⟨("all_cells", none), "all_cells", "all_cells", defArgs (top 23), defBody (top 23), defScope (top 23), [], []⟩
theorem B14 : FnAll Ir.P Ir.names Ir.f14 d14 where
  body := fun G hnm Pm w K mg base fa cdv A outer s H E call fu k S hp => (s_cons (s_ret (e_bin S (e_biB S rfl (ha := (es_cons (q_fld S rfl hnm rfl (q_var rfl rfl rfl)) es_nil))) (q_fld S rfl hnm rfl (q_var rfl rfl rfl))))
  s_nil)
  sc := ⟨rfl, rfl, rfl, by decide +kernel, rfl, by decide +kernel, by decide +kernel⟩
  bd := fun _ _ _ _ _ _ us hl => match us, hl with | [_], _ => rfl
  dfl := ⟨rfl, rfl⟩
  le := by decide
def d15 : He.DefD := ⟨("is_writing", none), "is_writing", "is_writing", defArgs (top 24), defBody (top 24), defScope (top 24), [], []⟩
theorem B15 : FnAll Ir.P Ir.names Ir.f15 d15 where
  body := fun G hnm Pm w K mg base fa cdv A outer s H E call fu k S hp => (s_cons (s_if (t_or (w_or (t_not (t_val S (e_call S rfl rfl rfl rfl rfl (es_cons (q_var rfl rfl rfl) es_nil)))) (w_oneO (t_not (t_val S (e_call S rfl rfl rfl rfl rfl (es_cons (e_ix S (q_var rfl rfl rfl) e_int) (es_cons e_int (es_cons (e_bin S (e_call S rfl rfl rfl rfl rfl (es_cons (q_var rfl rfl rfl) es_nil)) e_int) es_nil)))))))))
  (s_cons (s_ret e_bl)
  s_nil)
  s_nil)
  (s_cons (s_ret (e_call S rfl rfl rfl rfl rfl (es_cons (e_ix S (q_var rfl rfl rfl) e_int) (es_cons (e_call S rfl rfl rfl rfl rfl (es_cons (q_var rfl rfl rfl) es_nil)) es_nil))))
  s_nil))
  sc := ⟨rfl, rfl, rfl, by decide +kernel, rfl, by decide +kernel, by decide +kernel⟩
  bd := fun _ _ _ _ _ _ us hl => match us, hl with | [_, _], _ => rfl
  dfl := ⟨rfl, rfl⟩
  le := by decide
def d16 : He.DefD := ⟨("is_program", none), "is_program", "is_program", defArgs (top 25), defBody (top 25), defScope (top 25), [], []⟩
theorem B16 : FnAll Ir.P Ir.names Ir.f16 d16 where
  body := fun G hnm Pm w K mg base fa cdv A outer s H E call fu k S hp => (s_cons (s_ret (e_and (e_and2 S (e_call S rfl rfl rfl rfl rfl (es_cons (q_var rfl rfl rfl) (es_cons e_int (es_cons (e_glob S rfl rfl rfl) es_nil)))) (e_one (e_biB S rfl (ha := (es_cons (e_lc S (blkOk_by (own := [("item", 2)]) (by show blkC Ir.f16.N d16.scope _ _ = true; decide +kernel)) rfl (i_seq S (q_var rfl rfl rfl)) (fun _ _ _ _ _ S => (q_nm S rfl rfl rfl)) (fun _ _ _ _ _ S => c_none) (fun _ _ _ _ _ S => (e_call S rfl rfl rfl rfl rfl (es_cons (q_var rfl rfl rfl) (es_cons (q_var rfl rfl rfl) es_nil))))) es_nil)))))))
  s_nil)
  sc := ⟨rfl, rfl, rfl, by decide +kernel, rfl, by decide +kernel, by decide +kernel⟩
  bd := fun _ _ _ _ _ _ us hl => match us, hl with | [_, _], _ => rfl
  dfl := ⟨rfl, rfl⟩
  le := by decide
def d17 : He.DefD := ⟨("check_program", none), "check_program", "check_program", defArgs (top 26), defBody (top 26), defScope (top 26), [], []⟩
theorem B17 : FnAll Ir.P Ir.names Ir.f17 d17 where
  body := fun G hnm Pm w K mg base fa cdv A outer s H E call fu k S hp => (s_cons (s_if (t_not (t_val S (e_call S rfl rfl rfl rfl rfl (es_cons (q_var rfl rfl rfl) (es_cons (q_var rfl rfl rfl) es_nil)))))
  (s_cons s_never
  s_nil)
  s_nil)
  s_nil)
  sc := ⟨rfl, rfl, rfl, by decide +kernel, rfl, by decide +kernel, by decide +kernel⟩
  bd := fun _ _ _ _ _ _ us hl => match us, hl with | [_, _], _ => rfl
  dfl := ⟨rfl, rfl⟩
  le := by decide
def d18 : He.DefD := ⟨("number_text", none), "number_text", "number_text", defArgs (top 31), defBody (top 31), defScope (top 31), [], []⟩
theorem B18 : FnAll Ir.P Ir.names Ir.f18 d18 where
  body := fun G hnm Pm w K mg base fa cdv A outer s H E call fu k S hp => (s_cons (s_asg (q_var rfl rfl rfl) (g_tup S (gs_cons (q_nm S rfl rfl rfl) (gs_cons (q_nm S rfl rfl rfl) gs_nil))))
  (s_cons (s_ret (e_ifx (t_eq S (q_var rfl rfl rfl) e_int) (e_biT S rfl (ha := (es_cons (q_var rfl rfl rfl) es_nil))) (e_bin S (e_bin S (e_biT S rfl (ha := (es_cons (q_var rfl rfl rfl) es_nil))) e_str) (e_biT S rfl (ha := (es_cons (q_var rfl rfl rfl) es_nil))))))
  s_nil))
  sc := ⟨rfl, rfl, rfl, by decide +kernel, rfl, by decide +kernel, by decide +kernel⟩
  bd := fun _ _ _ _ _ _ us hl => match us, hl with | [_], _ => rfl
  dfl := ⟨rfl, rfl⟩
  le := by decide
def d19 : He.DefD := ⟨("whole_read", none), "whole_read", "whole_read", defArgs (top 32), defBody (top 32), defScope (top 32), [], []⟩
theorem B19 : FnAll Ir.P Ir.names Ir.f19 d19 where
  body := fun G hnm Pm w K mg base fa cdv A outer s H E call fu k S hp => (s_cons (s_if (t_or (w_or (t_not (t_chain S e_int (e_biB S rfl (ha := (es_cons (q_var rfl rfl rfl) es_nil))) (e_glob S rfl rfl rfl))) (w_oneO (t_not (t_val S (e_biB S rfl (ha := (es_cons (e_lc S (blkOk_by (own := [("sign", 1)]) (by show blkC Ir.f19.N d19.scope _ _ = true; decide +kernel)) rfl (i_seq S (q_var rfl rfl rfl)) (fun _ _ _ _ _ S => (q_nm S rfl rfl rfl)) (fun _ _ _ _ _ S => c_none) (fun _ _ _ _ _ S => (e_cmp S (q_var rfl rfl rfl) (e_glob S rfl rfl rfl)))) es_nil))))))))
  (s_cons (s_ret e_non)
  s_nil)
  s_nil)
  (s_cons (s_ret (e_ifx (t_and (w_and (t_cmp S (e_biB S rfl (ha := (es_cons (q_var rfl rfl rfl) es_nil))) e_int) (w_one (t_eq S (e_ix S (q_var rfl rfl rfl) e_int) e_str)))) e_non (e_biT S rfl (ha := (es_cons (q_var rfl rfl rfl) es_nil)))))
  s_nil))
  sc := ⟨rfl, rfl, rfl, by decide +kernel, rfl, by decide +kernel, by decide +kernel⟩
  bd := fun _ _ _ _ _ _ us hl => match us, hl with | [_], _ => rfl
  dfl := ⟨rfl, rfl⟩
  le := by decide
def d20 : He.DefD := ⟨("plain_read", none), "plain_read", "plain_read", defArgs (top 33), defBody (top 33), defScope (top 33), [], []⟩
theorem B20 : FnAll Ir.P Ir.names Ir.f20 d20 where
  body := fun G hnm Pm w K mg base fa cdv A outer s H E call fu k S hp => (s_cons (s_setLc S rfl rfl rfl (blkOk_by (own := [("part", 3)]) (by show blkC Ir.f20.N d20.scope _ _ = true; decide +kernel)) rfl (i_seq S (e_split S (q_var rfl rfl rfl) (es_cons e_str es_nil))) (fun _ _ _ _ _ S => (q_nm S rfl rfl rfl)) (fun _ _ _ _ _ S => c_none) (fun _ _ _ _ _ S => (e_call S rfl rfl rfl rfl rfl (es_cons (q_var rfl rfl rfl) es_nil))))
  (s_cons (s_if (t_or (w_or (t_cmp S e_non (q_var rfl rfl rfl)) (w_oneO (t_cmp S (e_biB S rfl (ha := (es_cons (q_var rfl rfl rfl) es_nil))) e_int))))
  (s_cons (s_ret e_non)
  s_nil)
  s_nil)
  (s_cons (s_if (t_eq S (e_biB S rfl (ha := (es_cons (q_var rfl rfl rfl) es_nil))) e_int)
  (s_cons (s_ret (e_tup (es_cons (e_ix S (q_var rfl rfl rfl) e_int) (es_cons e_int es_nil))))
  s_nil)
  s_nil)
  (s_cons (q_set S rfl rfl rfl (e_biT S rfl (ha := (es_cons (q_var rfl rfl rfl) es_nil))) rfl)
  (s_cons (s_ret (e_ifx (t_and (w_and (t_cmp S (e_ix S (q_var rfl rfl rfl) e_int) e_int) (w_one (t_eq S (e_call S rfl rfl rfl rfl rfl (es_cons (e_ix S (q_var rfl rfl rfl) e_int) (es_cons (e_ix S (q_var rfl rfl rfl) e_int) es_nil))) (q_var rfl rfl rfl))))) (q_var rfl rfl rfl) e_non))
  s_nil)))))
  sc := ⟨rfl, rfl, rfl, by decide +kernel, rfl, by decide +kernel, by decide +kernel⟩
  bd := fun _ _ _ _ _ _ us hl => match us, hl with | [_], _ => rfl
  dfl := ⟨rfl, rfl⟩
  le := by decide
def d21 : He.DefD := ⟨("number_read", none), "number_read", "number_read", defArgs (top 34), defBody (top 34), defScope (top 34), [], []⟩
theorem B21 : FnAll Ir.P Ir.names Ir.f21 d21 where
  body := fun G hnm Pm w K mg base fa cdv A outer s H E call fu k S hp => (s_cons (s_if (t_eq S (e_sl S (q_var rfl rfl rfl) o_none (o_some e_int)) e_str)
  (s_cons (s_ret (e_call S rfl rfl rfl rfl rfl (es_cons (q_var rfl rfl rfl) es_nil)))
  s_nil)
  s_nil)
  (s_cons (q_set S rfl rfl rfl (e_call S rfl rfl rfl rfl rfl (es_cons (e_sl S (q_var rfl rfl rfl) (o_some e_int) o_none) es_nil)) rfl)
  (s_cons (s_ret (e_ifx (t_or (w_or (t_isn (q_var rfl rfl rfl)) (w_oneO (t_eq S (q_var rfl rfl rfl) (e_glob S rfl rfl rfl))))) e_non (e_call S rfl rfl rfl rfl rfl (es_cons (e_glob S rfl rfl rfl) (es_cons (q_var rfl rfl rfl) es_nil)))))
  s_nil)))
  sc := ⟨rfl, rfl, rfl, by decide +kernel, rfl, by decide +kernel, by decide +kernel⟩
  bd := fun _ _ _ _ _ _ us hl => match us, hl with | [_], _ => rfl
  dfl := ⟨rfl, rfl⟩
  le := by decide
def d22 : He.DefD := ⟨("all_read", none), "all_read", "all_read", defArgs (top 35), defBody (top 35), defScope (top 35), [], []⟩
theorem B22 : FnAll Ir.P Ir.names Ir.f22 d22 where
  body := fun G hnm Pm w K mg base fa cdv A outer s H E call fu k S hp => (s_cons (q_set S rfl rfl rfl (e_biT S rfl (ha := (es_cons (e_lc S (blkOk_by (own := [("word", 3)]) (by show blkC Ir.f22.N d22.scope _ _ = true; decide +kernel)) rfl (i_seq S (q_var rfl rfl rfl)) (fun _ _ _ _ _ S => (q_nm S rfl rfl rfl)) (fun _ _ _ _ _ S => c_none) (fun _ _ _ _ _ S => (q_callv S rfl rfl rfl (es_cons (q_var rfl rfl rfl) es_nil)))) es_nil))) rfl)
  (s_cons (s_ret (e_ifx (t_cmp S e_non (q_var rfl rfl rfl)) e_non (q_var rfl rfl rfl)))
  s_nil))
  sc := ⟨rfl, rfl, rfl, by decide +kernel, rfl, by decide +kernel, by decide +kernel⟩
  bd := fun _ _ _ _ _ _ us hl => match us, hl with | [_, _], _ => rfl
  dfl := ⟨rfl, rfl⟩
  le := by decide
def d23 : He.DefD := ⟨("numbers_text", none), "numbers_text", "numbers_text", defArgs (top 36), defBody (top 36), defScope (top 36), [], []⟩
theorem B23 : FnAll Ir.P Ir.names Ir.f23 d23 where
  body := fun G hnm Pm w K mg base fa cdv A outer s H E call fu k S hp => (s_cons (s_ret (e_join S e_str (es_cons (e_lc S (blkOk_by (own := [("number", 1)]) (by show blkC Ir.f23.N d23.scope _ _ = true; decide +kernel)) rfl (i_seq S (q_var rfl rfl rfl)) (fun _ _ _ _ _ S => (q_nm S rfl rfl rfl)) (fun _ _ _ _ _ S => c_none) (fun _ _ _ _ _ S => (e_bin S e_str (e_call S rfl rfl rfl rfl rfl (es_cons (q_var rfl rfl rfl) es_nil))))) es_nil)))
  s_nil)
  sc := ⟨rfl, rfl, rfl, by decide +kernel, rfl, by decide +kernel, by decide +kernel⟩
  bd := fun _ _ _ _ _ _ us hl => match us, hl with | [_], _ => rfl
  dfl := ⟨rfl, rfl⟩
  le := by decide
def d24 : He.DefD := ⟨("wish_text", none), "wish_text", "wish_text", defArgs (top 37), defBody (top 37), defScope (top 37), [], []⟩
theorem B24 : FnAll Ir.P Ir.names Ir.f24 d24 where
  body := fun G hnm Pm w K mg base fa cdv A outer s H E call fu k S hp => (s_cons (q_set S rfl rfl rfl (e_lstT (es_cons (e_bin S e_str (e_biT S rfl (ha := (es_cons (e_biB S rfl (ha := (es_cons (q_fld S rfl hnm rfl (q_var rfl rfl rfl)) es_nil))) es_nil)))) (es_cons (e_bin S e_str (e_biT S rfl (ha := (es_cons (q_fld S rfl hnm rfl (q_var rfl rfl rfl)) es_nil)))) es_nil))) rfl)
  (s_cons (s_expr (e_append S (q_var rfl rfl rfl) (es_cons (e_bin S e_str (e_join S e_str (es_cons (e_lc S (blkOk_by (own := [("cell", 4)]) (by show blkC Ir.f24.N d24.scope _ _ = true; decide +kernel)) rfl (i_seq S (q_fld S rfl hnm rfl (q_var rfl rfl rfl))) (fun _ _ _ _ _ S => (q_nm S rfl rfl rfl)) (fun _ _ _ _ _ S => c_none) (fun _ _ _ _ _ S => (e_bin S e_str (e_biT S rfl (ha := (es_cons (q_var rfl rfl rfl) es_nil)))))) es_nil))) es_nil)))
  (s_cons (s_for S hp (i_seq S (q_fld S rfl hnm rfl (q_var rfl rfl rfl))) (q_nm S rfl rfl rfl)
  (s_cons (s_expr (e_append S (q_var rfl rfl rfl) (es_cons (e_ifx (t_isn (q_var rfl rfl rfl)) e_str (e_bin S e_str (e_call S rfl rfl rfl rfl rfl (es_cons (q_var rfl rfl rfl) es_nil)))) es_nil)))
  s_nil))
  (s_cons (s_ret (e_join S e_str (es_cons (e_lc S (blkOk_by (own := [("line", 3)]) (by show blkC Ir.f24.N d24.scope _ _ = true; decide +kernel)) rfl (i_seq S (q_var rfl rfl rfl)) (fun _ _ _ _ _ S => (q_nm S rfl rfl rfl)) (fun _ _ _ _ _ S => c_none) (fun _ _ _ _ _ S => (e_bin S (q_var rfl rfl rfl) e_str))) es_nil)))
  s_nil))))
  sc := ⟨rfl, rfl, rfl, by decide +kernel, rfl, by decide +kernel, by decide +kernel⟩
  bd := fun _ _ _ _ _ _ us hl => match us, hl with | [_], _ => rfl
  dfl := ⟨rfl, rfl⟩
  le := by decide
def d25 : He.DefD := ⟨("program_text", none), "program_text", "program_text", defArgs (top 38), defBody (top 38), defScope (top 38), [], []⟩
theorem B25 : FnAll Ir.P Ir.names Ir.f25 d25 where
  body := fun G hnm Pm w K mg base fa cdv A outer s H E call fu k S hp => (s_cons (s_ret (e_join S e_str (es_cons (e_lc S (blkOk_by (own := [("cell", 1), ("row", 2)]) (by show blkC Ir.f25.N d25.scope _ _ = true; decide +kernel)) rfl (i_seq S (q_var rfl rfl rfl)) (fun _ _ _ _ _ S => (g_tup S (gs_cons (q_nm S rfl rfl rfl) (gs_cons (q_nm S rfl rfl rfl) gs_nil)))) (fun _ _ _ _ _ S => c_none) (fun _ _ _ _ _ S => (e_bin S (e_bin S (e_bin S e_str (e_biT S rfl (ha := (es_cons (q_var rfl rfl rfl) es_nil)))) (e_call S rfl rfl rfl rfl rfl (es_cons (q_var rfl rfl rfl) es_nil))) e_str))) es_nil)))
  s_nil)
  sc := ⟨rfl, rfl, rfl, by decide +kernel, rfl, by decide +kernel, by decide +kernel⟩
  bd := fun _ _ _ _ _ _ us hl => match us, hl with | [_], _ => rfl
  dfl := ⟨rfl, rfl⟩
  le := by decide
def d26 : He.DefD := ⟨("lines_of", none), "lines_of", "lines_of", defArgs (top 39), defBody (top 39), defScope (top 39), [], []⟩
theorem B26 : FnAll Ir.P Ir.names Ir.f26 d26 where
  body := fun G hnm Pm w K mg base fa cdv A outer s H E call fu k S hp => (s_cons (s_if (t_not (t_val S (e_isi S rfl (q_var rfl rfl rfl) (ty_b S rfl))))
  (s_cons s_never
  s_nil)
  s_nil)
  (s_cons (q_set S rfl rfl rfl (e_split S (q_var rfl rfl rfl) (es_cons e_str es_nil)) rfl)
  (s_cons (s_ret (e_tup (es_cons (e_sl S (q_var rfl rfl rfl) o_none (o_some (e_neg e_int))) (es_cons (e_ix S (q_var rfl rfl rfl) (e_neg e_int)) es_nil))))
  s_nil)))
  sc := ⟨rfl, rfl, rfl, by decide +kernel, rfl, by decide +kernel, by decide +kernel⟩
  bd := fun _ _ _ _ _ _ us hl => match us, hl with | [_], _ => rfl
  dfl := ⟨rfl, rfl⟩
  le := by decide
def d27 : He.DefD := ⟨("check_none", none), "check_none", "check_none", defArgs (top 40), defBody (top 40), defScope (top 40), [], []⟩
theorem B27 : FnAll Ir.P Ir.names Ir.f27 d27 where
  body := fun G hnm Pm w K mg base fa cdv A outer s H E call fu k S hp => (s_cons (s_if (t_eq S (q_var rfl rfl rfl) e_str)
  (s_cons s_never
  s_nil)
  s_nil)
  s_nil)
  sc := ⟨rfl, rfl, rfl, by decide +kernel, rfl, by decide +kernel, by decide +kernel⟩
  bd := fun _ _ _ _ _ _ us hl => match us, hl with | [_, _], _ => rfl
  dfl := ⟨rfl, rfl⟩
  le := by decide
def d28 : He.DefD := ⟨("check_read", none), "check_read", "check_read", defArgs (top 41), defBody (top 41), defScope (top 41), [], []⟩
theorem B28 : FnAll Ir.P Ir.names Ir.f28 d28 where
  body := fun G hnm Pm w K mg base fa cdv A outer s H E call fu k S hp => (s_cons (s_if (t_isn (q_var rfl rfl rfl))
  (s_cons s_never
  s_nil)
  s_nil)
  s_nil)
  sc := ⟨rfl, rfl, rfl, by decide +kernel, rfl, by decide +kernel, by decide +kernel⟩
  bd := fun _ _ _ _ _ _ us hl => match us, hl with | [_, _], _ => rfl
  dfl := ⟨rfl, rfl⟩
  le := by decide
def d29 : He.DefD := ⟨("word_read", none), "word_read", "word_read", defArgs (top 42), defBody (top 42), defScope (top 42), [], []⟩
theorem B29 : FnAll Ir.P Ir.names Ir.f29 d29 where
  body := fun G hnm Pm w K mg base fa cdv A outer s H E call fu k S hp => (s_cons (q_set S rfl rfl rfl (e_split S (q_var rfl rfl rfl) (es_cons e_str es_nil)) rfl)
  (s_cons (s_ret (e_ifx (t_and (w_and (t_eq S (e_biB S rfl (ha := (es_cons (q_var rfl rfl rfl) es_nil))) e_int) (w_one (t_eq S (e_ix S (q_var rfl rfl rfl) e_int) (q_var rfl rfl rfl))))) (e_call S rfl rfl rfl rfl rfl (es_cons (e_ix S (q_var rfl rfl rfl) e_int) es_nil)) e_non))
  s_nil))
  sc := ⟨rfl, rfl, rfl, by decide +kernel, rfl, by decide +kernel, by decide +kernel⟩
  bd := fun _ _ _ _ _ _ us hl => match us, hl with | [_, _], _ => rfl
  dfl := ⟨rfl, rfl⟩
  le := by decide
def d30 : He.DefD := ⟨("locked_read", none), "locked_read", "locked_read", defArgs (top 43), defBody (top 43), defScope (top 43), [], []⟩
theorem B30 : FnAll Ir.P Ir.names Ir.f30 d30 where
  body := fun G hnm Pm w K mg base fa cdv A outer s H E call fu k S hp => (s_cons (q_set S rfl rfl rfl (e_split S (q_var rfl rfl rfl) (es_cons e_str es_nil)) rfl)
  (s_cons (s_ret (e_ifx (t_eq S (e_ix S (q_var rfl rfl rfl) e_int) e_str) (e_call S rfl rfl rfl rfl rfl (es_cons (e_sl S (q_var rfl rfl rfl) (o_some e_int) o_none) (es_cons (e_fnv S rfl rfl rfl rfl) es_nil))) e_non))
  s_nil))
  sc := ⟨rfl, rfl, rfl, by decide +kernel, rfl, by decide +kernel, by decide +kernel⟩
  bd := fun _ _ _ _ _ _ us hl => match us, hl with | [_], _ => rfl
  dfl := ⟨rfl, rfl⟩
  le := by decide
def d31 : He.DefD := ⟨("item_read", none), "item_read", "item_read", defArgs (top 44), defBody (top 44), defScope (top 44), [], []⟩
theorem B31 : FnAll Ir.P Ir.names Ir.f31 d31 where
  body := fun G hnm Pm w K mg base fa cdv A outer s H E call fu k S hp => (s_cons (q_set S rfl rfl rfl (e_split S (q_var rfl rfl rfl) (es_cons e_str es_nil)) rfl)
  (s_cons (s_if (t_eq S (q_var rfl rfl rfl) (e_lst (es_cons e_str es_nil)))
  (s_cons (s_ret (e_lst (es_cons e_non es_nil)))
  s_nil)
  s_nil)
  (s_cons (q_set S rfl rfl rfl (e_ifx (t_eq S (e_ix S (q_var rfl rfl rfl) e_int) e_str) (e_call S rfl rfl rfl rfl rfl (es_cons (e_sl S (q_var rfl rfl rfl) (o_some e_int) o_none) (es_cons (e_fnv S rfl rfl rfl rfl) es_nil))) e_non) rfl)
  (s_cons (s_ret (e_ifx (t_isn (q_var rfl rfl rfl)) e_non (e_lst (es_cons (q_var rfl rfl rfl) es_nil))))
  s_nil))))
  sc := ⟨rfl, rfl, rfl, by decide +kernel, rfl, by decide +kernel, by decide +kernel⟩
  bd := fun _ _ _ _ _ _ us hl => match us, hl with | [_], _ => rfl
  dfl := ⟨rfl, rfl⟩
  le := by decide
def d32 : He.DefD := ⟨("head_read", none), "head_read", "head_read", defArgs (top 45), defBody (top 45), defScope (top 45), [], []⟩
theorem B32 : FnAll Ir.P Ir.names Ir.f32 d32 where
  body := fun G hnm Pm w K mg base fa cdv A outer s H E call fu k S hp => (s_cons (s_if (t_eq S (q_var rfl rfl rfl) e_int)
  (s_cons (s_ret (e_call S rfl rfl rfl rfl rfl (es_cons (q_var rfl rfl rfl) es_nil)))
  s_nil)
  s_nil)
  (s_cons (s_ret (e_call S rfl rfl rfl rfl rfl (es_cons (q_var rfl rfl rfl) (es_cons (e_ifx (t_eq S (q_var rfl rfl rfl) e_int) e_str e_str) es_nil))))
  s_nil))
  sc := ⟨rfl, rfl, rfl, by decide +kernel, rfl, by decide +kernel, by decide +kernel⟩
  bd := fun _ _ _ _ _ _ us hl => match us, hl with | [_, _], _ => rfl
  dfl := ⟨rfl, rfl⟩
  le := by decide
def d33 : He.DefD := ⟨("read_wish", none), "read_wish", "read_wish", defArgs (top 46), defBody (top 46), defScope (top 46), [], []⟩
theorem B33 : FnAll Ir.P Ir.names Ir.f33 d33 where
  body := fun G hnm Pm w K mg base fa cdv A outer s H E call fu k S hp => (s_cons (s_asg (e_call S rfl rfl rfl rfl rfl (es_cons (q_var rfl rfl rfl) es_nil)) (g_tup S (gs_cons (q_nm S rfl rfl rfl) (gs_cons (q_nm S rfl rfl rfl) gs_nil))))
  (s_cons (q_set S rfl rfl rfl (e_lstT es_nil) rfl)
  (s_cons (q_set S rfl rfl rfl (e_lstT es_nil) rfl)
  (s_cons (s_for S hp (i_en S rfl (q_var rfl rfl rfl)) (g_tup S (gs_cons (q_nm S rfl rfl rfl) (gs_cons (q_nm S rfl rfl rfl) gs_nil)))
  (s_cons (q_set S rfl rfl rfl e_non rfl)
  (s_cons (s_if (t_cmp S (q_var rfl rfl rfl) e_int)
  (s_cons (q_set S rfl rfl rfl (e_call S rfl rfl rfl rfl rfl (es_cons (q_var rfl rfl rfl) (es_cons (q_var rfl rfl rfl) es_nil))) rfl)
  (s_cons (s_expr (e_append S (q_var rfl rfl rfl) (es_cons (q_var rfl rfl rfl) es_nil)))
  s_nil))
  (s_cons (s_if (t_cmp S (e_biB S rfl (ha := (es_cons (q_var rfl rfl rfl) es_nil))) (e_ix S (q_var rfl rfl rfl) e_int))
  (s_cons (q_set S rfl rfl rfl (e_call S rfl rfl rfl rfl rfl (es_cons (q_var rfl rfl rfl) es_nil)) rfl)
  (s_cons (s_expr (e_extend S (q_var rfl rfl rfl) (es_cons (e_ifx (t_isnt (q_var rfl rfl rfl)) (q_var rfl rfl rfl) (e_lst es_nil)) es_nil)))
  s_nil))
  s_nil)
  s_nil))
  (s_cons (s_expr (e_call S rfl rfl rfl rfl rfl (es_cons (q_var rfl rfl rfl) (es_cons (e_bin S (q_var rfl rfl rfl) e_int) es_nil))))
  s_nil))))
  (s_cons (s_expr (e_call S rfl rfl rfl rfl rfl (es_cons (q_var rfl rfl rfl) (es_cons (q_var rfl rfl rfl) es_nil))))
  (s_cons (s_if (t_or (w_or (t_cmp S (e_biB S rfl (ha := (es_cons (q_var rfl rfl rfl) es_nil))) e_int) (w_oneO (t_cmp S (e_biB S rfl (ha := (es_cons (q_var rfl rfl rfl) es_nil))) (e_ix S (q_var rfl rfl rfl) e_int)))))
  (s_cons s_never
  s_nil)
  s_nil)
  (s_cons (s_ret (e_mk S rfl rfl rfl rfl rfl rfl (es_cons (e_biT S rfl (ha := (es_cons (q_var rfl rfl rfl) es_nil))) (es_cons (e_ix S (q_var rfl rfl rfl) e_int) (es_cons (e_ix S (q_var rfl rfl rfl) e_int) es_nil)))))
  s_nil)))))))
  sc := ⟨rfl, rfl, rfl, by decide +kernel, rfl, by decide +kernel, by decide +kernel⟩
  bd := fun _ _ _ _ _ _ us hl => match us, hl with | [_], _ => rfl
  dfl := ⟨rfl, rfl⟩
  le := by decide
def d34 : He.DefD := ⟨("writing_read", none), "writing_read", "writing_read", defArgs (top 47), defBody (top 47), defScope (top 47), [], []⟩
theorem B34 : FnAll Ir.P Ir.names Ir.f34 d34 where
  body := fun G hnm Pm w K mg base fa cdv A outer s H E call fu k S hp => (s_cons (q_set S rfl rfl rfl (e_split S (q_var rfl rfl rfl) (es_cons e_str es_nil)) rfl)
  (s_cons (s_if (t_or (w_or (t_eq S (e_ix S (q_var rfl rfl rfl) e_int) e_str) (w_oneO (t_cmp S (e_biB S rfl (ha := (es_cons (q_var rfl rfl rfl) es_nil))) e_int))))
  (s_cons (s_ret e_non)
  s_nil)
  s_nil)
  (s_cons (s_par S rfl rfl (es_cons (e_call S rfl rfl rfl rfl rfl (es_cons (e_ix S (q_var rfl rfl rfl) e_int) es_nil)) (es_cons (e_call S rfl rfl rfl rfl rfl (es_cons (e_sl S (q_var rfl rfl rfl) (o_some e_int) o_none) (es_cons (e_fnv S rfl rfl rfl rfl) es_nil))) es_nil)))
  (s_cons (s_ret (e_ifx (t_or (w_or (t_isn (q_var rfl rfl rfl)) (w_oneO (t_isn (q_var rfl rfl rfl))))) e_non (e_tup (es_cons (q_var rfl rfl rfl) (es_cons (q_var rfl rfl rfl) es_nil)))))
  s_nil))))
  sc := ⟨rfl, rfl, rfl, by decide +kernel, rfl, by decide +kernel, by decide +kernel⟩
  bd := fun _ _ _ _ _ _ us hl => match us, hl with | [_], _ => rfl
  dfl := ⟨rfl, rfl⟩
  le := by decide
def d35 : He.DefD := ⟨("read_program", none), "read_program", "read_program", defArgs (top 48), defBody (top 48), defScope (top 48), [], []⟩
theorem B35 : FnAll Ir.P Ir.names Ir.f35 d35 where
  body := fun G hnm Pm w K mg base fa cdv A outer s H E call fu k S hp => (s_cons (s_asg (e_call S rfl rfl rfl rfl rfl (es_cons (q_var rfl rfl rfl) es_nil)) (g_tup S (gs_cons (q_nm S rfl rfl rfl) (gs_cons (q_nm S rfl rfl rfl) gs_nil))))
  (s_cons (q_set S rfl rfl rfl (e_lstT es_nil) rfl)
  (s_cons (s_for S hp (i_en S rfl (q_var rfl rfl rfl)) (g_tup S (gs_cons (q_nm S rfl rfl rfl) (gs_cons (q_nm S rfl rfl rfl) gs_nil)))
  (s_cons (s_expr (e_append S (q_var rfl rfl rfl) (es_cons (e_call S rfl rfl rfl rfl rfl (es_cons (q_var rfl rfl rfl) es_nil)) es_nil)))
  (s_cons (s_expr (e_call S rfl rfl rfl rfl rfl (es_cons (e_ix S (q_var rfl rfl rfl) (e_neg e_int)) (es_cons (e_bin S (q_var rfl rfl rfl) e_int) es_nil))))
  s_nil)))
  (s_cons (s_expr (e_call S rfl rfl rfl rfl rfl (es_cons (q_var rfl rfl rfl) (es_cons (q_var rfl rfl rfl) es_nil))))
  (s_cons (s_expr (e_call S rfl rfl rfl rfl rfl (es_cons (q_var rfl rfl rfl) (es_cons (e_biT S rfl (ha := (es_cons (q_var rfl rfl rfl) es_nil))) es_nil))))
  (s_cons (s_ret (e_biT S rfl (ha := (es_cons (q_var rfl rfl rfl) es_nil))))
  s_nil))))))
  sc := ⟨rfl, rfl, rfl, by decide +kernel, rfl, by decide +kernel, by decide +kernel⟩
  bd := fun _ _ _ _ _ _ us hl => match us, hl with | [_, _], _ => rfl
  dfl := ⟨rfl, rfl⟩
  le := by decide
def d36 : He.DefD := ⟨("_law_hand", none), "_law_hand", "_law_hand", defArgs (top 50), defBody (top 50), defScope (top 50), [], []⟩
theorem B36 : FnAll Ir.P Ir.names Ir.f36 d36 where
  body := fun G hnm Pm w K mg base fa cdv A outer s H E call fu k S hp => (s_cons (s_setLc S rfl rfl rfl (blkOk_by (own := [("cell", 2)]) (by show blkC Ir.f36.N d36.scope _ _ = true; decide +kernel)) rfl (i_seq S (e_sl S (q_var rfl rfl rfl) o_none (o_some e_int))) (fun _ _ _ _ _ S => (q_nm S rfl rfl rfl)) (fun _ _ _ _ _ S => c_none) (fun _ _ _ _ _ S => (e_biB S rfl (ha := (es_cons (e_biT S rfl (ha := (es_cons (q_var rfl rfl rfl) es_nil))) es_nil)))))
  (s_cons (s_ret (e_lstT (es_cons (q_var rfl rfl rfl) (es_cons e_int (es_cons e_int (es_cons (e_bin S e_int (e_biB S rfl (ha := (es_cons (q_var rfl rfl rfl) es_nil)))) (es_cons e_int es_nil)))))))
  s_nil))
  sc := ⟨rfl, rfl, rfl, by decide +kernel, rfl, by decide +kernel, by decide +kernel⟩
  bd := fun _ _ _ _ _ _ us hl => match us, hl with | [_], _ => rfl
  dfl := ⟨rfl, rfl⟩
  le := by decide
def d37 : He.DefD := ⟨("_law_draw", none), "_law_draw", "_law_draw", defArgs (top 51), defBody (top 51), defScope (top 51), [], []⟩
theorem B37 : FnAll Ir.P Ir.names Ir.f37 d37 where
  body := fun G hnm Pm w K mg base fa cdv A outer s H E call fu k S hp => (s_cons (s_if (t_and (w_and (t_eq S (e_ix S (q_var rfl rfl rfl) e_int) e_int) (w_one (t_cmp S (e_ix S (q_var rfl rfl rfl) e_int) (e_biB S rfl (ha := (es_cons (e_ix S (q_var rfl rfl rfl) e_int) es_nil)))))))
  (s_cons (q_set S rfl rfl rfl (e_ix S (e_ix S (q_var rfl rfl rfl) e_int) (e_ix S (q_var rfl rfl rfl) e_int)) rfl)
  (s_cons (s_asg (e_bin S (e_ix S (q_var rfl rfl rfl) e_int) e_int) (g_sub S (q_var rfl rfl rfl) e_int))
  (s_cons (s_asg (e_bin S (e_biT S rfl (ha := (es_cons (e_bin S (e_bin S (e_bin S (e_ix S (q_var rfl rfl rfl) e_int) e_int) (q_var rfl rfl rfl)) e_int) es_nil))) e_int) (g_sub S (q_var rfl rfl rfl) e_int))
  (s_cons (s_if (t_cmp S (q_var rfl rfl rfl) (e_bin S e_int e_int))
  (s_cons (s_asg (q_var rfl rfl rfl) (g_sub S (q_var rfl rfl rfl) e_int))
  s_nil)
  s_nil)
  s_nil))))
  s_nil)
  (s_cons (s_if (t_cmp S (e_ix S (q_var rfl rfl rfl) e_int) e_int)
  (s_cons (q_set S rfl rfl rfl (e_bin S (e_biT S rfl (ha := (es_cons (e_ix S (q_var rfl rfl rfl) e_int) es_nil))) (q_var rfl rfl rfl)) rfl)
  (s_cons (s_asg (e_bin S (e_ix S (q_var rfl rfl rfl) e_int) (q_var rfl rfl rfl)) (g_sub S (q_var rfl rfl rfl) e_int))
  (s_cons (s_ret (q_var rfl rfl rfl))
  s_nil)))
  s_nil)
  (s_cons (s_asg (e_bin S (e_ix S (q_var rfl rfl rfl) e_int) e_int) (g_sub S (q_var rfl rfl rfl) e_int))
  (s_cons (q_set S rfl rfl rfl (e_bin S (e_biT S rfl (ha := (es_cons (e_bin S (e_biT S rfl (ha := (es_cons (e_bin S (e_ix S (q_var rfl rfl rfl) e_int) (e_bin S e_int (e_ix S (q_var rfl rfl rfl) e_int))) es_nil))) e_int) es_nil))) e_int) rfl)
  (s_cons (q_set S rfl rfl rfl (e_bin S (e_biT S rfl (ha := (es_cons (e_bin S (q_var rfl rfl rfl) (e_bin S (e_bin S (q_var rfl rfl rfl) e_int) e_int)) es_nil))) e_int) rfl)
  (s_cons (q_set S rfl rfl rfl (e_bin S (e_biT S rfl (ha := (es_cons (e_bin S (q_var rfl rfl rfl) (e_bin S (e_bin S (q_var rfl rfl rfl) e_int) e_int)) es_nil))) e_int) rfl)
  (s_cons (s_ret (e_bin S (e_biT S rfl (ha := (es_cons (e_bin S (q_var rfl rfl rfl) e_int) es_nil))) (q_var rfl rfl rfl)))
  s_nil)))))))
  sc := ⟨rfl, rfl, rfl, by decide +kernel, rfl, by decide +kernel, by decide +kernel⟩
  bd := fun _ _ _ _ _ _ us hl => match us, hl with | [_, _], _ => rfl
  dfl := ⟨rfl, rfl⟩
  le := by decide
def d38 : He.DefD := ⟨("_law_is", none), "_law_is", "_law_is", defArgs (top 52), defBody (top 52), defScope (top 52), [], []⟩
theorem B38 : FnAll Ir.P Ir.names Ir.f38 d38 where
  body := fun G hnm Pm w K mg base fa cdv A outer s H E call fu k S hp => (s_cons (s_if (t_val S (e_isiT S rfl (q_var rfl rfl rfl) (.cons (ty_b S rfl) (.cons (ty_b S rfl) .nil))))
  (s_cons (s_if (t_or (w_or (t_eq S (e_isi S rfl (q_var rfl rfl rfl) (ty_b S rfl)) (e_isi S rfl (q_var rfl rfl rfl) (ty_b S rfl))) (w_oneO (t_not (t_val S (e_isiT S rfl (q_var rfl rfl rfl) (.cons (ty_b S rfl) (.cons (ty_b S rfl) .nil))))))))
  (s_cons (s_ret e_bl)
  s_nil)
  s_nil)
  (s_cons (s_ret (e_and (e_and2 S (e_eq S (e_biB S rfl (ha := (es_cons (q_var rfl rfl rfl) es_nil))) (e_biB S rfl (ha := (es_cons (q_var rfl rfl rfl) es_nil)))) (e_one (e_biB S rfl (ha := (es_cons (e_lc S (blkOk_by (own := [("one", 2), ("two", 3)]) (by show blkC Ir.f38.N d38.scope _ _ = true; decide +kernel)) rfl (i_zip S rfl (q_var rfl rfl rfl) (q_var rfl rfl rfl)) (fun _ _ _ _ _ S => (g_tup S (gs_cons (q_nm S rfl rfl rfl) (gs_cons (q_nm S rfl rfl rfl) gs_nil)))) (fun _ _ _ _ _ S => c_none) (fun _ _ _ _ _ S => (e_call S rfl rfl rfl rfl rfl (es_cons (q_var rfl rfl rfl) (es_cons (q_var rfl rfl rfl) es_nil))))) es_nil)))))))
  s_nil))
  s_nil)
  (s_cons (s_if (t_isn (q_var rfl rfl rfl))
  (s_cons (s_ret (e_isn (q_var rfl rfl rfl)))
  s_nil)
  s_nil)
  (s_cons (s_ret (e_and (e_and2 S (e_eq S (e_isi S rfl (q_var rfl rfl rfl) (ty_b S rfl)) (e_isi S rfl (q_var rfl rfl rfl) (ty_b S rfl))) (e_and2 S (e_isnt (q_var rfl rfl rfl)) (e_one (e_eq S (q_var rfl rfl rfl) (q_var rfl rfl rfl)))))))
  s_nil)))
  sc := ⟨rfl, rfl, rfl, by decide +kernel, rfl, by decide +kernel, by decide +kernel⟩
  bd := fun _ _ _ _ _ _ us hl => match us, hl with | [_, _], _ => rfl
  dfl := ⟨rfl, rfl⟩
  le := by decide
def d39 : He.DefD := ⟨("_law_gcd", none), "_law_gcd", "_law_gcd", defArgs (top 53), defBody (top 53), defScope (top 53), [], []⟩
theorem B39 : FnAll Ir.P Ir.names Ir.f39 d39 where
  body := fun G hnm Pm w K mg base fa cdv A outer s H E call fu k S hp => (s_cons (s_while hp (t_cmp S (q_var rfl rfl rfl) e_int)
  (s_cons (s_par S rfl rfl (es_cons (q_var rfl rfl rfl) (es_cons (e_bin S (e_biT S rfl (ha := (es_cons (q_var rfl rfl rfl) es_nil))) (q_var rfl rfl rfl)) es_nil)))
  s_nil))
  (s_cons (s_ret (q_var rfl rfl rfl))
  s_nil))
  sc := ⟨rfl, rfl, rfl, by decide +kernel, rfl, by decide +kernel, by decide +kernel⟩
  bd := fun _ _ _ _ _ _ us hl => match us, hl with | [_, _], _ => rfl
  dfl := ⟨rfl, rfl⟩
  le := by decide
def d40 : He.DefD := ⟨("_law_low", none), "_law_low", "_law_low", defArgs (top 54), defBody (top 54), defScope (top 54), [], []⟩
theorem B40 : FnAll Ir.P Ir.names Ir.f40 d40 where
  body := fun G hnm Pm w K mg base fa cdv A outer s H E call fu k S hp => (s_cons (q_set S rfl rfl rfl (e_call S rfl rfl rfl rfl rfl (es_cons (e_biB S rfl (ha := (es_cons (q_var rfl rfl rfl) es_nil))) (es_cons (q_var rfl rfl rfl) es_nil))) rfl)
  (s_cons (s_ret (e_tup (es_cons (e_bin S (q_var rfl rfl rfl) (q_var rfl rfl rfl)) (es_cons (e_bin S (q_var rfl rfl rfl) (q_var rfl rfl rfl)) es_nil))))
  s_nil))
  sc := ⟨rfl, rfl, rfl, by decide +kernel, rfl, by decide +kernel, by decide +kernel⟩
  bd := fun _ _ _ _ _ _ us hl => match us, hl with | [_, _], _ => rfl
  dfl := ⟨rfl, rfl⟩
  le := by decide
def d41 : He.DefD := ⟨("_law_number", none), "_law_number", "_law_number", defArgs (top 55), defBody (top 55), defScope (top 55), [], []⟩
theorem B41 : FnAll Ir.P Ir.names Ir.f41 d41 where
  body := fun G hnm Pm w K mg base fa cdv A outer s H E call fu k S hp => (s_cons (q_set S rfl rfl rfl (e_call S rfl rfl rfl rfl rfl (es_cons (q_var rfl rfl rfl) (es_cons e_int es_nil))) rfl)
  (s_cons (s_if (t_eq S (q_var rfl rfl rfl) e_int)
  (s_cons (s_ret (e_call S rfl rfl rfl rfl rfl (es_cons (e_bin S (e_call S rfl rfl rfl rfl rfl (es_cons (q_var rfl rfl rfl) (es_cons e_int es_nil))) e_int) (es_cons (e_bin S e_int (e_call S rfl rfl rfl rfl rfl (es_cons (q_var rfl rfl rfl) (es_cons e_int es_nil)))) es_nil))))
  s_nil)
  s_nil)
  (s_cons (s_if (t_and (w_and (t_eq S (q_var rfl rfl rfl) e_int) (w_one (t_val S (q_var rfl rfl rfl)))))
  (s_cons (s_ret (e_call S rfl rfl rfl rfl rfl (es_cons (e_bin S (e_bin S (e_call S rfl rfl rfl rfl rfl (es_cons (q_var rfl rfl rfl) (es_cons (e_bin S (e_bin S e_int (e_bin S e_int e_int)) e_int) es_nil))) (e_bin S e_int e_int)) e_int) (es_cons (e_bin S e_int (e_call S rfl rfl rfl rfl rfl (es_cons (q_var rfl rfl rfl) (es_cons (e_bin S (e_bin S e_int e_int) e_int) es_nil)))) es_nil))))
  s_nil)
  s_nil)
  (s_cons (s_ret (e_ix S (e_lst (es_cons (e_tup (es_cons e_int (es_cons e_int es_nil))) (es_cons (e_tup (es_cons e_int (es_cons e_int es_nil))) (es_cons (e_tup (es_cons e_int (es_cons e_int es_nil))) (es_cons (e_tup (es_cons e_int (es_cons e_int es_nil))) (es_cons (e_tup (es_cons e_int (es_cons e_int es_nil))) (es_cons (e_tup (es_cons (e_neg e_int) (es_cons e_int es_nil))) (es_cons (e_tup (es_cons e_int (es_cons e_int es_nil))) (es_cons (e_tup (es_cons (e_neg e_int) (es_cons e_int es_nil))) es_nil))))))))) (e_call S rfl rfl rfl rfl rfl (es_cons (q_var rfl rfl rfl) (es_cons e_int es_nil)))))
  s_nil))))
  sc := ⟨rfl, rfl, rfl, by decide +kernel, rfl, by decide +kernel, by decide +kernel⟩
  bd := fun _ _ _ _ _ _ us hl => match us, hl with | [_, _], _ => rfl
  dfl := ⟨rfl, rfl⟩
  le := by decide
def d42 : He.DefD := ⟨("_law_unit", none), "_law_unit", "_law_unit", defArgs (top 56), defBody (top 56), defScope (top 56), [], []⟩
theorem B42 : FnAll Ir.P Ir.names Ir.f42 d42 where
  body := fun G hnm Pm w K mg base fa cdv A outer s H E call fu k S hp => (s_cons (s_ret (e_biT S rfl (ha := (es_cons (e_lc S (blkOk_by (own := [("place", 2)]) (by show blkC Ir.f42.N d42.scope _ _ = true; decide +kernel)) rfl (i_rng S rfl (q_var rfl rfl rfl)) (fun _ _ _ _ _ S => (q_nm S rfl rfl rfl)) (fun _ _ _ _ _ S => c_none) (fun _ _ _ _ _ S => (e_tup (es_cons (e_biT S rfl (ha := (es_cons (e_eq S (q_var rfl rfl rfl) (q_var rfl rfl rfl)) es_nil))) (es_cons e_int es_nil))))) es_nil))))
  s_nil)
  sc := ⟨rfl, rfl, rfl, by decide +kernel, rfl, by decide +kernel, by decide +kernel⟩
  bd := fun _ _ _ _ _ _ us hl => match us, hl with | [_, _], _ => rfl
  dfl := ⟨rfl, rfl⟩
  le := by decide
def d43 : He.DefD := ⟨("_law_wish", none), "_law_wish", "_law_wish", defArgs (top 57), defBody (top 57), defScope (top 57), [], []⟩
theorem B43 : FnAll Ir.P Ir.names Ir.f43 d43 where
  body := fun G hnm Pm w K mg base fa cdv A outer s H E call fu k S hp => (s_cons (q_set S rfl rfl rfl (e_bin S e_int (e_call S rfl rfl rfl rfl rfl (es_cons (q_var rfl rfl rfl) (es_cons (q_var rfl rfl rfl) es_nil)))) rfl)
  (s_cons (q_set S rfl rfl rfl (e_lstT es_nil) rfl)
  (s_cons (s_for S hp (i_rng S rfl (q_var rfl rfl rfl)) (q_nm S rfl rfl rfl)
  (s_cons (q_set S rfl rfl rfl (e_call S rfl rfl rfl rfl rfl (es_cons (q_var rfl rfl rfl) (es_cons e_int es_nil))) rfl)
  (s_cons (q_set S rfl rfl rfl (e_biT S rfl (ha := (es_cons (e_lc S (blkOk_by (own := [("place", 9)]) (by show blkC Ir.f43.N d43.scope _ _ = true; decide +kernel)) rfl (i_rng S rfl (q_var rfl rfl rfl)) (fun _ _ _ _ _ S => (q_nm S rfl rfl rfl)) (fun _ _ _ _ _ S => c_none) (fun _ _ _ _ _ S => (e_call S rfl rfl rfl rfl rfl (es_cons (q_var rfl rfl rfl) (es_cons (q_var rfl rfl rfl) es_nil))))) es_nil))) rfl)
  (s_cons (s_if (t_cmp S (q_var rfl rfl rfl) e_int)
  (s_cons (q_set S rfl rfl rfl (e_ix S (e_lst (es_cons e_non (es_cons (e_call S rfl rfl rfl rfl rfl (es_cons (q_var rfl rfl rfl) (es_cons (q_var rfl rfl rfl) es_nil))) (es_cons (e_call S rfl rfl rfl rfl rfl (es_cons (q_var rfl rfl rfl) (es_cons (e_call S rfl rfl rfl rfl rfl (es_cons (q_var rfl rfl rfl) (es_cons (q_var rfl rfl rfl) es_nil))) es_nil))) es_nil)))) (q_var rfl rfl rfl)) rfl)
  s_nil)
  s_nil)
  (s_cons (s_expr (e_append S (q_var rfl rfl rfl) (es_cons (q_var rfl rfl rfl) es_nil)))
  s_nil)))))
  (s_cons (q_set S rfl rfl rfl (e_biT S rfl (ha := (es_cons (e_lc S (blkOk_by (own := [("cell", 5)]) (by show blkC Ir.f43.N d43.scope _ _ = true; decide +kernel)) rfl (i_rng S rfl (q_var rfl rfl rfl)) (fun _ _ _ _ _ S => (q_nm S rfl rfl rfl)) (fun _ _ _ _ _ S => (c_one (t_eq S (e_call S rfl rfl rfl rfl rfl (es_cons (q_var rfl rfl rfl) (es_cons e_int es_nil))) e_int))) (fun _ _ _ _ _ S => (q_var rfl rfl rfl))) es_nil))) rfl)
  (s_cons (s_ret (e_tup (es_cons (e_biT S rfl (ha := (es_cons (q_var rfl rfl rfl) es_nil))) (es_cons (q_var rfl rfl rfl) (es_cons (e_call S rfl rfl rfl rfl rfl (es_cons (q_var rfl rfl rfl) (es_cons e_int es_nil))) es_nil)))))
  s_nil)))))
  sc := ⟨rfl, rfl, rfl, by decide +kernel, rfl, by decide +kernel, by decide +kernel⟩
  bd := fun _ _ _ _ _ _ us hl => match us, hl with | [_, _, _], _ => rfl
  dfl := ⟨rfl, rfl⟩
  le := by decide
def d44 : He.DefD := ⟨("_law_figures", none), "_law_figures", "_law_figures", defArgs (top 58), defBody (top 58), defScope (top 58), [], []⟩
theorem B44 : FnAll Ir.P Ir.names Ir.f44 d44 where
  body := fun G hnm Pm w K mg base fa cdv A outer s H E call fu k S hp => (s_cons (s_ret (e_bin S (e_biT S rfl (ha := (es_cons (e_ix S (q_var rfl rfl rfl) e_int) es_nil))) (e_ifx (t_eq S (e_ix S (q_var rfl rfl rfl) e_int) e_int) e_str (e_bin S e_str (e_biT S rfl (ha := (es_cons (e_ix S (q_var rfl rfl rfl) e_int) es_nil)))))))
  s_nil)
  sc := ⟨rfl, rfl, rfl, by decide +kernel, rfl, by decide +kernel, by decide +kernel⟩
  bd := fun _ _ _ _ _ _ us hl => match us, hl with | [_], _ => rfl
  dfl := ⟨rfl, rfl⟩
  le := by decide
def d45 : He.DefD := ⟨("_law_lines", none), "_law_lines", "_law_lines", defArgs (top 59), defBody (top 59), defScope (top 59), [], []⟩
theorem B45 : FnAll Ir.P Ir.names Ir.f45 d45 where
  body := fun G hnm Pm w K mg base fa cdv A outer s H E call fu k S hp => (s_cons (s_ret (e_join S e_str (es_cons (e_lc S (blkOk_by (own := [("row", 1)]) (by show blkC Ir.f45.N d45.scope _ _ = true; decide +kernel)) rfl (i_seq S (q_var rfl rfl rfl)) (fun _ _ _ _ _ S => (q_nm S rfl rfl rfl)) (fun _ _ _ _ _ S => c_none) (fun _ _ _ _ _ S => (e_bin S (e_join S e_str (es_cons (e_lc S (blkOk_by (own := [("word", 2)]) rfl) rfl (i_seq S (q_var rfl rfl rfl)) (fun _ _ _ _ _ S => (q_nm S rfl rfl rfl)) (fun _ _ _ _ _ S => c_none) (fun _ _ _ _ _ S => (e_biT S rfl (ha := (es_cons (q_var rfl rfl rfl) es_nil))))) es_nil)) e_str))) es_nil)))
  s_nil)
  sc := ⟨rfl, rfl, rfl, by decide +kernel, rfl, by decide +kernel, by decide +kernel⟩
  bd := fun _ _ _ _ _ _ us hl => match us, hl with | [_], _ => rfl
  dfl := ⟨rfl, rfl⟩
  le := by decide
def d46 : He.DefD := ⟨("_law_wish_text", none), "_law_wish_text", "_law_wish_text", defArgs (top 60), defBody (top 60), defScope (top 60), [], []⟩
theorem B46 : FnAll Ir.P Ir.names Ir.f46 d46 where
  body := fun G hnm Pm w K mg base fa cdv A outer s H E call fu k S hp => (s_cons (q_set S rfl rfl rfl (e_lstT (es_cons (e_lst (es_cons e_str (es_cons (e_biB S rfl (ha := (es_cons (q_var rfl rfl rfl) es_nil))) es_nil))) (es_cons (e_lst (es_cons e_str (es_cons (q_var rfl rfl rfl) es_nil))) (es_cons (e_bin S (e_lst (es_cons e_str es_nil)) (e_biT S rfl (ha := (es_cons (q_var rfl rfl rfl) es_nil)))) es_nil)))) rfl)
  (s_cons (s_for S hp (i_seq S (q_var rfl rfl rfl)) (q_nm S rfl rfl rfl)
  (s_cons (s_expr (e_append S (q_var rfl rfl rfl) (es_cons (e_ifx (t_isn (q_var rfl rfl rfl)) (e_lst (es_cons e_str es_nil)) (e_bin S (e_lst (es_cons e_str es_nil)) (e_lc S (blkOk_by (own := [("number", 5)]) (by show blkC Ir.f46.N d46.scope _ _ = true; decide +kernel)) rfl (i_seq S (q_var rfl rfl rfl)) (fun _ _ _ _ _ S => (q_nm S rfl rfl rfl)) (fun _ _ _ _ _ S => c_none) (fun _ _ _ _ _ S => (e_call S rfl rfl rfl rfl rfl (es_cons (q_var rfl rfl rfl) es_nil)))))) es_nil)))
  s_nil))
  (s_cons (s_ret (e_call S rfl rfl rfl rfl rfl (es_cons (q_var rfl rfl rfl) es_nil)))
  s_nil)))
  sc := ⟨rfl, rfl, rfl, by decide +kernel, rfl, by decide +kernel, by decide +kernel⟩
  bd := fun _ _ _ _ _ _ us hl => match us, hl with | [_, _, _], _ => rfl
  dfl := ⟨rfl, rfl⟩
  le := by decide
def d47 : He.DefD := ⟨("_law_program_text", none), "_law_program_text", "_law_program_text", defArgs (top 61), defBody (top 61), defScope (top 61), [], []⟩
theorem B47 : FnAll Ir.P Ir.names Ir.f47 d47 where
  body := fun G hnm Pm w K mg base fa cdv A outer s H E call fu k S hp => (s_cons (s_ret (e_call S rfl rfl rfl rfl rfl (es_cons (e_lc S (blkOk_by (own := [("cell", 1), ("row", 2)]) (by show blkC Ir.f47.N d47.scope _ _ = true; decide +kernel)) rfl (i_seq S (q_var rfl rfl rfl)) (fun _ _ _ _ _ S => (g_tup S (gs_cons (q_nm S rfl rfl rfl) (gs_cons (q_nm S rfl rfl rfl) gs_nil)))) (fun _ _ _ _ _ S => c_none) (fun _ _ _ _ _ S => (e_bin S (e_lst (es_cons e_str (es_cons (q_var rfl rfl rfl) es_nil))) (e_lc S (blkOk_by (own := [("number", 3)]) rfl) rfl (i_seq S (q_var rfl rfl rfl)) (fun _ _ _ _ _ S => (q_nm S rfl rfl rfl)) (fun _ _ _ _ _ S => c_none) (fun _ _ _ _ _ S => (e_call S rfl rfl rfl rfl rfl (es_cons (q_var rfl rfl rfl) es_nil))))))) es_nil)))
  s_nil)
  sc := ⟨rfl, rfl, rfl, by decide +kernel, rfl, by decide +kernel, by decide +kernel⟩
  bd := fun _ _ _ _ _ _ us hl => match us, hl with | [_], _ => rfl
  dfl := ⟨rfl, rfl⟩
  le := by decide
def d48 : He.DefD := ⟨("_law_program", none), "_law_program", "_law_program", defArgs (top 62), defBody (top 62), defScope (top 62), [], []⟩
theorem B48 : FnAll Ir.P Ir.names Ir.f48 d48 where
  body := fun G hnm Pm w K mg base fa cdv A outer s H E call fu k S hp => (s_cons (q_set S rfl rfl rfl (e_lstT es_nil) rfl)
  (s_cons (s_for S hp (i_rng S rfl (e_call S rfl rfl rfl rfl rfl (es_cons (q_var rfl rfl rfl) (es_cons (e_bin S (q_var rfl rfl rfl) e_int) es_nil)))) (q_nm S rfl rfl rfl)
  (s_cons (q_set S rfl rfl rfl (e_call S rfl rfl rfl rfl rfl (es_cons (q_var rfl rfl rfl) (es_cons (q_var rfl rfl rfl) es_nil))) rfl)
  (s_cons (s_expr (e_append S (q_var rfl rfl rfl) (es_cons (e_tup (es_cons (q_var rfl rfl rfl) (es_cons (e_biT S rfl (ha := (es_cons (e_lc S (blkOk_by (own := [("place", 6)]) (by show blkC Ir.f48.N d48.scope _ _ = true; decide +kernel)) rfl (i_rng S rfl (q_var rfl rfl rfl)) (fun _ _ _ _ _ S => (q_nm S rfl rfl rfl)) (fun _ _ _ _ _ S => c_none) (fun _ _ _ _ _ S => (e_call S rfl rfl rfl rfl rfl (es_cons (q_var rfl rfl rfl) (es_cons e_bl es_nil))))) es_nil))) es_nil))) es_nil)))
  s_nil)))
  (s_cons (s_ret (e_biT S rfl (ha := (es_cons (q_var rfl rfl rfl) es_nil))))
  s_nil)))
  sc := ⟨rfl, rfl, rfl, by decide +kernel, rfl, by decide +kernel, by decide +kernel⟩
  bd := fun _ _ _ _ _ _ us hl => match us, hl with | [_, _, _], _ => rfl
  dfl := ⟨rfl, rfl⟩
  le := by decide
def d49 : He.DefD := ⟨("law", none), "law", "law", defArgs (top 63), defBody (top 63), defScope (top 63), [], []⟩
theorem B49 : FnAll Ir.P Ir.names Ir.f49 d49 where
  body := fun G hnm Pm w K mg base fa cdv A outer s H E call fu k S hp => (s_cons (q_set S rfl rfl rfl (e_call S rfl rfl rfl rfl rfl (es_cons (q_var rfl rfl rfl) es_nil)) rfl)
  (s_cons (s_for S hp (i_rng S rfl e_int) (q_nm S rfl rfl rfl)
  (s_cons (s_asg (e_call S rfl rfl rfl rfl rfl (es_cons (q_var rfl rfl rfl) (es_cons e_int (es_cons e_bl es_nil)))) (g_tup S (gs_cons (q_nm S rfl rfl rfl) (gs_cons (q_nm S rfl rfl rfl) (gs_cons (q_nm S rfl rfl rfl) gs_nil)))))
  (s_cons (s_par S rfl rfl (es_cons (e_mk S rfl rfl rfl rfl rfl rfl (es_cons (q_var rfl rfl rfl) (es_cons (q_var rfl rfl rfl) (es_cons (q_var rfl rfl rfl) es_nil)))) (es_cons (e_call S rfl rfl rfl rfl rfl (es_cons (q_var rfl rfl rfl) (es_cons (q_var rfl rfl rfl) (es_cons (q_var rfl rfl rfl) es_nil)))) es_nil)))
  (s_cons (s_if (t_not (t_val S (e_call S rfl rfl rfl rfl rfl (es_cons (e_call S rfl rfl rfl rfl rfl (es_cons (q_var rfl rfl rfl) es_nil)) (es_cons (q_var rfl rfl rfl) es_nil)))))
  (s_cons (s_ret e_bl)
  s_nil)
  s_nil)
  (s_cons (q_set S rfl rfl rfl (e_call S rfl rfl rfl rfl rfl (es_cons (q_var rfl rfl rfl) es_nil)) rfl)
  (s_cons (s_if (t_or (w_or (t_not (t_val S (e_isi S rfl (q_var rfl rfl rfl) (ty_c S rfl rfl rfl)))) (w_or (t_eq S (q_var rfl rfl rfl) (q_var rfl rfl rfl)) (w_oneO (t_eq S (e_call S rfl rfl rfl rfl rfl (es_cons (q_var rfl rfl rfl) es_nil)) (q_var rfl rfl rfl))))))
  (s_cons (s_ret e_bl)
  s_nil)
  s_nil)
  (s_cons (s_if (t_not (t_val S (e_call S rfl rfl rfl rfl rfl (es_cons (e_lst (es_cons (q_fld S rfl hnm rfl (q_var rfl rfl rfl)) (es_cons (q_fld S rfl hnm rfl (q_var rfl rfl rfl)) (es_cons (q_fld S rfl hnm rfl (q_var rfl rfl rfl)) es_nil)))) (es_cons (e_lst (es_cons (q_var rfl rfl rfl) (es_cons (q_var rfl rfl rfl) (es_cons (q_var rfl rfl rfl) es_nil)))) es_nil)))))
  (s_cons (s_ret e_bl)
  s_nil)
  s_nil)
  (s_cons (q_set S rfl rfl rfl (e_call S rfl rfl rfl rfl rfl (es_cons (q_var rfl rfl rfl) (es_cons (e_bin S (e_biB S rfl (ha := (es_cons (q_var rfl rfl rfl) es_nil))) (q_var rfl rfl rfl)) (es_cons e_int es_nil)))) rfl)
  (s_cons (s_if (t_and (w_and (t_cmp S (e_biB S rfl (ha := (es_cons (q_var rfl rfl rfl) es_nil))) e_int) (w_one (t_eq S (e_call S rfl rfl rfl rfl rfl (es_cons (q_var rfl rfl rfl) (es_cons e_int es_nil))) e_int))))
  (s_cons (q_set S rfl rfl rfl (e_sl S (e_bin S (q_var rfl rfl rfl) e_int) o_none (o_some e_int)) rfl)
  s_nil)
  s_nil)
  (s_cons (q_set S rfl rfl rfl (e_call S rfl rfl rfl rfl rfl (es_cons (q_var rfl rfl rfl) es_nil)) rfl)
  (s_cons (s_if (t_or (w_or (t_not (t_val S (e_call S rfl rfl rfl rfl rfl (es_cons (e_call S rfl rfl rfl rfl rfl (es_cons (q_var rfl rfl rfl) es_nil)) (es_cons (q_var rfl rfl rfl) es_nil))))) (w_oneO (t_not (t_val S (e_call S rfl rfl rfl rfl rfl (es_cons (e_call S rfl rfl rfl rfl rfl (es_cons (q_var rfl rfl rfl) (es_cons (q_var rfl rfl rfl) es_nil))) (es_cons (q_var rfl rfl rfl) es_nil))))))))
  (s_cons (s_ret e_bl)
  s_nil)
  s_nil)
  (s_cons (s_if (t_or (w_or (t_eq S (q_fld S rfl hnm rfl (q_var rfl rfl rfl)) (q_var rfl rfl rfl)) (w_oneO (t_eq S (e_call S rfl rfl rfl rfl rfl (es_cons (e_call S rfl rfl rfl rfl rfl (es_cons (q_var rfl rfl rfl) (es_cons (q_var rfl rfl rfl) es_nil))) es_nil)) (q_var rfl rfl rfl)))))
  (s_cons (s_ret e_bl)
  s_nil)
  s_nil)
  s_nil))))))))))))
  (s_cons (s_ret (e_and (e_and2 S (e_eq S (e_call S rfl rfl rfl rfl rfl (es_cons (e_tup es_nil) es_nil)) e_str) (e_one (e_eq S (e_call S rfl rfl rfl rfl rfl (es_cons (e_mk S rfl rfl rfl rfl rfl rfl (es_cons (e_tup (es_cons e_non es_nil)) (es_cons (e_tup es_nil) (es_cons e_int es_nil)))) (es_cons e_str es_nil))) (e_tup es_nil))))))
  s_nil)))
  sc := ⟨rfl, rfl, rfl, by decide +kernel, rfl, by decide +kernel, by decide +kernel⟩
  bd := fun _ _ _ _ _ _ us hl => match us, hl with | [_], _ => rfl
  dfl := ⟨rfl, rfl⟩
  le := by decide
def fn : List He.DefD := [d0, d1, d2, d3, d4, d5, d6, d7, d8, d9, d10, d11, d12, d13, d14, d15, d16, d17, d18, d19, d20, d21, d22, d23, d24, d25, d26, d27, d28, d29, d30, d31, d32, d33, d34, d35, d36, d37, d38, d39, d40, d41, d42, d43, d44, d45, d46, d47, d48, d49]
theorem all : AllF Ir.P Ir.names Ir.P.fns fn := .cons B0 (.cons B1 (.cons B2 (.cons B3 (.cons B4 (.cons B5 (.cons B6 (.cons B7 (.cons B8 (.cons B9 (.cons B10 (.cons B11 (.cons B12 (.cons B13 (.cons B14 (.cons B15 (.cons B16 (.cons B17 (.cons B18 (.cons B19 (.cons B20 (.cons B21 (.cons B22 (.cons B23 (.cons B24 (.cons B25 (.cons B26 (.cons B27 (.cons B28 (.cons B29 (.cons B30 (.cons B31 (.cons B32 (.cons B33 (.cons B34 (.cons B35 (.cons B36 (.cons B37 (.cons B38 (.cons B39 (.cons B40 (.cons B41 (.cons B42 (.cons B43 (.cons B44 (.cons B45 (.cons B46 (.cons B47 (.cons B48 (.cons B49 (.nil))))))))))))))))))))))))))))))))))))))))))))))))))
end Dv
namespace Hd
open PySem PySem.Spec PyProof.Rows L2 RI
abbrev R : PySem.W.OpenRow := PySem.W.OpenLaw.row PySem.Challenge.rw_oncetwice_k49_whole_texts_there_and_back
def exb (K : PySem.W.Frag) : Bool := RI.ex Ir.P Dv.fn Ir.names K
abbrev hk : PySem.W.Hook := He.hookX 4 [] Dv.fn [] [] exb
def ob (s : PySem.W.SharedT) : He.AlX := He.obsX 4 [] Dv.fn [] [] exb (HandSHeadRun.getT s)
theorem ob_eq (s : PySem.W.SharedT) : ob s = hk.obs s.abs := He.obsX_eq (HandSHeadRun.getT_eq s)
def names : List Str := (["CellError", "BadWish", "NoProgram", "BadText", "is_integer", "is_within", "is_pair", "is_sized", "is_lot", "NOUGHT", "divisor", "is_number", "is_row", "lowest", "times", "MOST_CELLS", "MOST_SPARE", "MOST_WRITINGS", "Wish", "all_cells", "is_writing", "is_program", "check_program", "FIGURES", "MOST_FIGURES", "CONTRARY", "number_text", "whole_read", "plain_read", "number_read"] : List Str) ++ (["all_read", "numbers_text", "wish_text", "program_text", "lines_of", "check_none", "check_read", "word_read", "locked_read", "item_read", "head_read", "read_wish", "writing_read", "read_program", "_law_hand", "_law_draw", "_law_is", "_law_gcd", "_law_low", "_law_number", "_law_unit", "_law_wish", "_law_figures", "_law_lines", "_law_wish_text", "_law_program_text", "_law_program"] : List Str)
theorem run (w : World) : HandSHeadRun.RunEq R (PySem.W.view R.prog [63]) hk ob 20000 names w := by
  intro os
  kernel_rfl
end Hd
open PySem PySem.W PySem.Calls PyProof.Rows in
theorem law_of (law : ∀ xs : List Int, xs.length ≤ 63 → ∃ S', RI.callF Ir.P 10000000000 40 Ir.lawId [.scr xs] [] = .ok (.d (.bl true)) S') : PySem.Challenge.rw_oncetwice_k49_whole_texts_there_and_back.Holds := by
  w_on; o_law
  refine HandSHeadRun.head_any (r := OpenLaw.row PySem.Challenge.rw_oncetwice_k49_whole_texts_there_and_back) (q := view (OpenLaw.row PySem.Challenge.rw_oncetwice_k49_whole_texts_there_and_back).prog [63]) (H := Hd.hk) (ob := Hd.ob) (M := 20000) (loose := Hd.names) (d := HandSHeadRun.topDef (OpenLaw.row PySem.Challenge.rw_oncetwice_k49_whole_texts_there_and_back).prog 63) (kwd := []) Hd.ob_eq
    (by kernel_rfl) (fun s => by kernel_rfl) Hd.run (by kernel_rfl) (by kernel_rfl) (by kernel_rfl) (by rfl) (by first | assumption | decide +kernel) (by decide +kernel) ⟨rfl, rfl, rfl, rfl, rfl, by decide +kernel⟩ ?hw ?hc
  case hw => w_witness2
  case hc =>
    refine L2.walk_ofE (l := PySem.Challenge.rw_oncetwice_k49_whole_texts_there_and_back) (n := 63) (k := 2 * 40) (x := "script") (CX := L2.CX0) rfl (by decide) (by kernel_rfl) ⟨rfl, by decide, by decide⟩ ?F (fun _ _ _ _ z => z)
    intro w mg fa h Y Gm hmg0
    obtain ⟨K, KX, c⟩ := Y
    have hmg : mg ("law" : PySem.Str) = some (.ref fa) := by
      have e : (HandSHeadRun.topDef (OpenLaw.row PySem.Challenge.rw_oncetwice_k49_whole_texts_there_and_back).prog 63).name = ("law" : PySem.Str) := by kernel_rfl
      rw [← e]
      exact hmg0
    obtain ⟨fd, sp, hb, h1, hF⟩ := RI.law_facts (P := Ir.P) (ds := Dv.fn) (ns := Ir.names) (Pm := (PySem.Challenge.rw_oncetwice_k49_whole_texts_there_and_back).prog) (w := w) (fu := 10000000000) (n := 40) (lid := Ir.lawId) (fd := Ir.f49) (ld := Dv.d49) (mg := mg) (fA := fa) KX Gm Dv.all (by decide +kernel) rfl rfl rfl rfl rfl hmg c.t.d c.more law
    exact ⟨K, fd, sp, KX, hb, h1, hF⟩
theorem PySem.Challenge.cw_oncetwice_k49_whole_texts_there_and_back_holds : PySem.Challenge.rw_oncetwice_k49_whole_texts_there_and_back.Holds := by
  exact law_of P49.law49
