import PyProof.Rows.All
import HandS.ForMost
import HandS.ForExc
import HandS.Wide
import HandS.Flow
import HandS.FStr
import HandS.IsInst
import HandS.TupAny
import HandS.Star
import HandS.Property
import HandS.CallSlots
import HandS.Style
import HandS.Defaults
import HandS.Conv
import HandS.Zip
import HandS.Deep
import HandS.Flt
import PyProof.DictUpdate
import HandS.More
import HandS.ClsMeth
import HandS.ExcOwn
import PyProof.InstNe
import KE.GoesMore
import KE.GoesZip
import KE.KUnpackStar
import HandS.Ends
import HandS.HeadHook4
import HandS.HeadEnd
import HandS.Words
import HandS.Codes
import KE.KStateDown
import HandS.Head0
import HandS.Head1
import HandS.Head2
import Wide.Once
import Lean
import PySem.Challenge.RW_carryrounds_k71_programs_written
set_option Elab.async false
set_option linter.all false
section
set_option Elab.async false
set_option linter.all false
set_option maxRecDepth 100000
/-! SX1: data, code, the evaluator. -/
namespace SX
open PySem

/-- data: frozen (a value) but for ref n, the n-th mutable object; rol: a list that is only read -/
inductive D where
  | non | bl (b : Bool) | int (i : Int) | str (s : Str)
  | tup (l : List D) | lst (l : List D) | rol (l : List D)
  | dic (ks : List L2.Key) (vs : List D)
  | obj (c : Nat) (fs : List D)
  | ref (n : Nat)
  | cls (c : Nat)
  deriving Inhabited
/-- what a mutable object holds -/
inductive Cell where
  | lst (l : List D) | dic (kvs : List (L2.Key × D)) | obj (c : Nat) (fs : List D)
  deriving Inhabited
abbrev LH := List (Option Cell)
structure Exn where
  c : Nat
  v : D
inductive Res (α : Type) where
  | ok (a : α) (h : LH) | ex (x : Exn) (h : LH) | stuck
def EM (α : Type) := LH → Res α
def ret {α : Type} (a : α) : EM α := fun h => .ok a h
def stk {α : Type} : EM α := fun _ => .stuck
def thw {α : Type} (x : Exn) : EM α := fun h => .ex x h
def bnd {α β : Type} (m : EM α) (f : α → EM β) : EM β := fun h => match m h with
  | .ok a h' => f a h'
  | .ex x h' => .ex x h'
  | .stuck => .stuck
instance : Monad EM where
  pure := ret
  bind := bnd
@[simp] theorem pure_eq {α : Type} (a : α) : (pure a : EM α) = ret a := rfl
@[simp] theorem bind_eq {α β : Type} (m : EM α) (f : α → EM β) : (m >>= f) = bnd m f := rfl
@[simp] theorem bnd_ret {α β : Type} (a : α) (f : α → EM β) : bnd (ret a) f = f a := rfl
@[simp] theorem bnd_stk {α β : Type} (f : α → EM β) : bnd stk f = stk := rfl
@[simp] theorem bnd_thw {α β : Type} (x : Exn) (f : α → EM β) : bnd (thw x) f = thw x := rfl
@[simp] theorem bnd_bnd {α β γ : Type} (m : EM α) (f : α → EM β) (g : β → EM γ) : bnd (bnd m f) g = bnd m fun a => bnd (f a) g := by
  funext h
  show (match bnd m f h with | .ok a h' => g a h' | .ex x h' => .ex x h' | .stuck => .stuck) = bnd m (fun a => bnd (f a) g) h
  unfold bnd
  cases m h <;> rfl
theorem bnd_pure {α : Type} (m : EM α) : bnd m ret = m := by
  funext h
  unfold bnd
  cases m h <;> rfl
def guard' (b : Bool) : EM Unit := if b = true then ret () else stk
def ofO {α : Type} : Option α → EM α
  | some a => ret a
  | none => stk
@[simp] theorem ofO_some {α : Type} (a : α) : ofO (some a) = ret a := rfl
@[simp] theorem ofO_none {α : Type} : ofO (none : Option α) = stk := rfl

/-! ### the heap of mutable objects -/
def newC (c : Cell) : EM D := fun h => .ok (.ref h.length) (h ++ [some c])
def newN (c : Cell) : EM Nat := fun h => .ok h.length (h ++ [some c])
def getC (n : Nat) : EM Cell := fun h => match h[n]? with
  | some (some c) => .ok c h
  | _ => .stuck
def setC (n : Nat) (c : Cell) : EM Unit := fun h => match h[n]? with
  | some (some _) => .ok () (h.set n (some c))
  | _ => .stuck
def Cell.frz : Cell → D
  | .lst l => .lst l
  | .dic kvs => .dic (kvs.map (·.1)) (kvs.map (·.2))
  | .obj c fs => .obj c fs
/-- from here on it never changes: its value -/
def frzC (d : D) : EM D := match d with
  | .ref n => fun h => match h[n]? with
    | some (some c) => .ok c.frz (h.set n none)
    | _ => .stuck
  | d => ret d

/-! ### code -/
inductive BOp where | add | sub | mul | fdiv | mod | pow
inductive COp where | eq | ne | lt | le | gt | ge | isN | notN | isin | notin
inductive Blt where | len | abs | max | min | int | str | repr | list | tuple | all | any | bool
inductive BMt where | split | join | startswith | endswith | replace | index | append | extend | pop | clear | get | update
inductive TyN where | int | bool | str | list | tuple | cls (c : Nat)
mutual
inductive CE where
  | con (d : D) | var (i : Nat) | frz (i : Nat) | glo (x : Nat)
  | neg (e : CE) | bin (o : BOp) (a b : CE)
  | cmp (o : COp) (a b : CE) | chn (o p : COp) (a b c : CE)
  | and (a b : CE) | or (a b : CE) | not (a : CE)
  | ite (c a b : CE)
  | tup (es : CL) | lst (es : CL) | lsc (es : CL)
  | dcc (ks : List L2.Key) (es : CL)
  | gin (x : Nat) (a : CE) (neg : Bool) | gix (x : Nat) (a : CE)
  | idx (a i : CE) | slc (a : CE) (lo hi : CO) | rev (a : CE)
  | att (e : CE) (f : Nat)
  | cal (f : Nat) (es : CL) | mak (c : Nat) (es : CL) | mkc (c : Nat) (es : CL) | clm (f c : Nat) (es : CL)
  | mkv (i c : Nat) (es : CL)
  | mth (o : CE) (m : Nat) (es : CL)
  | blt (b : Blt) (es : CL) | bmt (m : BMt) (o : CE) (es : CL)
  | isi (e : CE) (ts : List TyN)
  | com (own : List Nat) (t : CT) (i : CI) (c : CO) (e : CE)
  | fst (es : CL)
  | hol | dnw
inductive CL where
  | nil | one (e : CE) (r : CL) | sta (e : CE) (r : CL)
inductive CO where
  | no | so (e : CE)
inductive CI where
  | seq (e : CE) | rng (a : CE) | rng2 (a b : CE) | rng3 (a b : CE) (c : Int) | enu (i : CE) | zip (a b : CE)
inductive CT where
  | nam (i : Nat) | tup (ts : CTL) | sub (a i : CE) | att (a : CE) (f : Nat) | hdt (i j : Nat)
inductive CTL where
  | nil | cons (t : CT) (r : CTL)
end
mutual
inductive CS where
  | asg (t : CT) (e : CE) | aug (i : Nat) (o : BOp) (e : CE) | exp (e : CE) | ret (e : CE) | retN
  | ite (c : CE) (a b : CSs) | for_ (t : CT) (i : CI) (b : CSs) | whl (c : CE) (b : CSs)
  | brk | cnt | pas | bad
  | rai (c : Nat) (e : CE)
inductive CSs where
  | nil | cons (s : CS) (r : CSs)
end

def CL.len : CL → Nat
  | .nil => 0
  | .one _ r => r.len + 1
  | .sta _ r => r.len + 1
def CTL.len : CTL → Nat
  | .nil => 0
  | .cons _ r => r.len + 1
abbrev Env := List (Option D)
abbrev Sem := List D → EM D
/-- what the code of one def may call, by numbers (class, name, how many arguments, what it computes) -/
structure Ctx where
  flds : Nat → List Nat
  fns : List (Nat × Nat × Sem)
  inis : List (Nat × Nat × Sem)
  mts : List (Nat × Nat × Nat × Sem)
  prs : List (Nat × Nat × Sem)
  gds : List (Nat × List (Str × D))
  fuel : Nat
  cls : List Nat
  gvs : List (Nat × D)
def Ctx.fn (C : Ctx) (f n : Nat) : Option Sem := (C.fns.find? fun p => p.1 == f && p.2.1 == n).map (·.2.2)
def Ctx.ini (C : Ctx) (c n : Nat) : Option Sem := (C.inis.find? fun p => p.1 == c && p.2.1 == n).map (·.2.2)
def Ctx.mt (C : Ctx) (c m n : Nat) : Option Sem := (C.mts.find? fun p => p.1 == c && (p.2.1 == m && p.2.2.1 == n)).map (·.2.2.2)
def Ctx.pr (C : Ctx) (c f : Nat) : Option Sem := (C.prs.find? fun p => p.1 == c && p.2.1 == f).map (·.2.2)
def Ctx.gd (C : Ctx) (x : Nat) : Option (List (Str × D)) := C.gds.lookup x
def Ctx.hasF (C : Ctx) (f : Nat) : Bool := C.fns.any fun p => p.1 == f
def Ctx.hasI (C : Ctx) (c : Nat) : Bool := C.inis.any fun p => p.1 == c
def Ctx.hasG (C : Ctx) (x : Nat) : Bool := (C.gvs.lookup x).isSome
def Ctx.hasD (C : Ctx) (x : Nat) : Bool := (C.gds.lookup x).isSome
def Ctx.hasM (C : Ctx) (c m : Nat) : Bool := C.mts.any fun p => p.1 == c && p.2.1 == m

/-! ### operations on data -/
def fitB (n : Nat) : Bool := decide (n ≤ 16777216)
def mulOk (i j : Int) : Bool := (decide (-(2 ^ 64) < i) && decide (i < 2 ^ 64)) || (decide (-(2 ^ 64) < j) && decide (j < 2 ^ 64)) || decide (i.natAbs.log2 + j.natAbs.log2 < 1000000)
def divOk (j : Int) : Bool := decide (0 < j) && decide (j.natAbs.log2 < 9000)
def powOk (i j : Int) : Bool := decide (0 ≤ j) && decide (j ≤ 1000000) && decide (i.natAbs < 2 ^ 64)
def strOk (i : Int) : Bool := decide (i.natAbs.log2 < 1920)
def binD : BOp → D → D → EM D
  | .add, .int i, .int j => ret (.int (i + j))
  | .add, .str a, .str b => bnd (guard' (fitB (a.length + b.length))) fun _ => ret (.str (a ++ b))
  | .add, .lst a, .lst b => bnd (guard' (fitB (a.length + b.length))) fun _ => ret (.lst (a ++ b))
  | .add, .tup a, .tup b => bnd (guard' (fitB (a.length + b.length))) fun _ => ret (.tup (a ++ b))
  | .sub, .int i, .int j => ret (.int (i - j))
  | .mul, .int i, .int j => bnd (guard' (mulOk i j)) fun _ => ret (.int (i * j))
  | .mul, .lst a, .int k => bnd (guard' (decide (-(2 ^ 63) ≤ k) && decide (k < 2 ^ 63) && fitB (a.length * k.toNat))) fun _ => ret (.lst (List.replicate k.toNat a).flatten)
  | .fdiv, .int i, .int j => bnd (guard' (divOk j)) fun _ => ret (.int (i / j))
  | .mod, .int i, .int j => bnd (guard' (decide (0 < j))) fun _ => ret (.int (i % j))
  | .pow, .int i, .int j => bnd (guard' (powOk i j)) fun _ => ret (.int (i ^ j.toNat))
  | _, _, _ => stk
mutual
/-- as plain data, if it is that -/
def D.toP : D → Option PyData
  | .non => some .none
  | .bl b => some (.bool b)
  | .int i => some (.int i)
  | .str s => some (.str s)
  | .tup l => (D.toPs l).map .tuple
  | .lst l => (D.toPs l).map .list
  | _ => none
def D.toPs : List D → Option (List PyData)
  | [] => some []
  | d :: l => match D.toP d, D.toPs l with
    | some x, some xs => some (x :: xs)
    | _, _ => none
end
/-- == of plain data -/
def eqP (a b : D) : Option Bool := match a.toP, b.toP with
  | some x, some y => if SeqAt.shaped x && SeqAt.shaped y then some (PyData.eqv x y) else none
  | _, _ => none
def signIn (a b : Str) : Option Bool := match a.cps.toList with
  | [c] => some (decide (c ∈ b.cps.toList))
  | _ => none
def inP (a : D) (l : List D) : Option Bool := match a.toP, D.toPs l with
  | some x, some ys => if SeqAt.shaped x && SeqAt.shaped (.list ys) then some (ys.any fun y => PyData.eqv y x) else none
  | _, _ => none
def D.flat : D → Bool
  | .non => true
  | .bl _ => true
  | .int _ => true
  | .str _ => true
  | _ => false
/-- a place in a list, as Python counts -/
def ixN (n : Nat) (i : Int) : Option Nat := L2.ixN n i
def atD (l : List D) (i : Int) : Option D := (ixN l.length i).bind fun j => l[j]?
def cutD {α : Type} (l : List α) (lo hi : Option Int) : List α := (l.drop (HT.sIx l.length 0 lo)).take (HT.sIx l.length l.length hi - HT.sIx l.length 0 lo)
def getE (env : Env) (i : Nat) : EM D := match env[i]? with
  | some (some d) => ret d
  | _ => stk
/-- is it true? -/
def truD : D → EM Bool
  | .bl b => ret b
  | .non => ret false
  | .int i => ret (i != 0)
  | .str s => bnd (guard' (fitB s.length)) fun _ => ret (s.length != 0)
  | .lst l => ret (!l.isEmpty)
  | .tup l => ret (!l.isEmpty)
  | _ => stk
def isTy (t : TyN) (d : D) : Option Bool := match t, d with
  | .int, .int _ => some true
  | .int, .bl _ => some true
  | .bool, .bl _ => some true
  | .str, .str _ => some true
  | .list, .lst _ => some true
  | .tuple, .tup _ => some true
  | .cls c, .obj c' _ => some (c == c')
  | _, .ref _ => none
  | _, .dic _ _ => none
  | _, .rol _ => none
  | _, .cls _ => none
  | _, _ => some false
def isTys : List TyN → D → Option Bool
  | [], _ => some false
  | t :: ts, d => match isTy t d with
    | some true => some true
    | some false => isTys ts d
    | none => none
def cmpI : COp → Int → Int → Option Bool
  | .lt, i, j => some (decide (i < j))
  | .le, i, j => some (decide (i ≤ j))
  | .gt, i, j => some (decide (j < i))
  | .ge, i, j => some (decide (j ≤ i))
  | _, _, _ => none
def D.isNon : D → Bool
  | .non => true
  | _ => false
def negO (n : Bool) (o : Option Bool) : Option Bool := o.map fun b => if n then !b else b
/-- comparisons that call nothing -/
def cmpD (o : COp) (a b : D) : Option Bool := match o, a, b with
  | .isN, a, .non => some a.isNon
  | .notN, a, .non => some (!a.isNon)
  | .eq, a, b => eqP a b
  | .ne, a, b => negO true (eqP a b)
  | .isin, .str a, .str b => signIn a b
  | .notin, .str a, .str b => negO true (signIn a b)
  | .isin, a, .tup l => if a.flat && l.all D.flat then inP a l else none
  | .notin, a, .tup l => if a.flat && l.all D.flat then negO true (inP a l) else none
  | .isin, a, .lst l => inP a l
  | .notin, a, .lst l => negO true (inP a l)
  | o, .int i, .int j => cmpI o i j
  | _, _, _ => none
def intsD : List D → Option (List Int)
  | [] => some []
  | .int i :: l => (intsD l).map (i :: ·)
  | _ => none
def strsD : List D → Option (List Str)
  | [] => some []
  | .str i :: l => (strsD l).map (i :: ·)
  | _ => none
def blsD : List D → Option (List Bool)
  | [] => some []
  | .bl i :: l => (blsD l).map (i :: ·)
  | _ => none
def maxL : Int → List Int → Int
  | m, [] => m
  | m, x :: l => maxL (if x > m then x else m) l
def minL : Int → List Int → Int
  | m, [] => m
  | m, x :: l => minL (if x < m then x else m) l
/-- the first place of an equal one -/
def ixP (d : D) : List D → Nat → Option Nat
  | [], _ => none
  | x :: l, i => match eqP x d with
    | some true => some i
    | some false => ixP d l (i + 1)
    | none => none
def ixOk (l : List D) (d : D) : Bool := match D.toPs l, d.toP with
  | some ps, some p => SeqAt.shaped (.list ps) && SeqAt.shaped p
  | _, _ => false
/-- the value at a key -/
def valD (kvs : List (L2.Key × D)) (k : L2.Key) : Option D := (kvs.find? fun kv => decide (kv.1 = k)).map (·.2)
def putD (kvs : List (L2.Key × D)) (k : L2.Key) (v : D) : List (L2.Key × D) :=
  if (kvs.any fun kv => decide (kv.1 = k)) = true then kvs.map (fun kv => if kv.1 = k then (kv.1, v) else kv) else kvs ++ [(k, v)]
def mergeD (kvs more : List (L2.Key × D)) : List (L2.Key × D) := more.foldl (fun acc kv => putD acc kv.1 kv.2) kvs
/-! ### built-in calls and methods (by values) -/
def lenC : Cell → EM D
  | .lst l => ret (.int l.length)
  | _ => stk
def lenD : D → EM D
  | .str s => bnd (guard' (fitB s.length)) fun _ => ret (.int s.length)
  | .lst l => ret (.int l.length)
  | .tup l => ret (.int l.length)
  | .rol l => ret (.int l.length)
  | .ref n => bnd (getC n) lenC
  | _ => stk
def maxO : Option (List Int) → EM D
  | some (i :: is) => ret (.int (maxL i is))
  | _ => stk
def minO : Option (List Int) → EM D
  | some (i :: is) => ret (.int (minL i is))
  | _ => stk
def intO (n : Nat) : Option Int → EM D
  | some i => bnd (guard' (decide (n ≤ 640))) fun _ => ret (.int i)
  | none => stk
def allO : Option (List Bool) → EM D
  | some bs => ret (.bl (bs.all id))
  | none => stk
def anyO : Option (List Bool) → EM D
  | some bs => ret (.bl (bs.any id))
  | none => stk
def reprO : Option PyData → EM D
  | some p => bnd (guard' (p.showable && SeqAt.shaped p && fitB p.shown.length)) fun _ => ret (.str p.shown)
  | none => stk
def blt1 : Blt → D → EM D
  | .len, d => lenD d
  | .abs, .int i => ret (.int (if i < 0 then -i else i))
  | .max, .lst l => maxO (intsD l)
  | .min, .lst l => minO (intsD l)
  | .int, .int i => ret (.int i)
  | .int, .bl b => ret (.int (if b then 1 else 0))
  | .int, .str s => intO s.length (PySem.intText? s)
  | .str, .int i => bnd (guard' (strOk i)) fun _ => ret (.str ((toString i : String) : Str))
  | .list, .lst l => ret (.lst l)
  | .list, .tup l => ret (.lst l)
  | .tuple, .lst l => ret (.tup l)
  | .tuple, .tup l => ret (.tup l)
  | .all, .lst l => allO (blsD l)
  | .any, .lst l => anyO (blsD l)
  | .bool, .bl b => ret (.bl b)
  | .bool, .int i => ret (.bl (i != 0))
  | .repr, .lst l => reprO (D.toP (.lst l))
  | .repr, .tup l => reprO (D.toP (.tup l))
  | _, _ => stk
def blt2 : Blt → D → D → EM D
  | .max, .int i, .int j => ret (.int (if j > i then j else i))
  | .min, .int i, .int j => ret (.int (if j < i then j else i))
  | _, _, _ => stk
def blt3 : Blt → D → D → D → EM D
  | .max, .int i, .int j, .int k => ret (.int (if k > (if j > i then j else i) then k else (if j > i then j else i)))
  | _, _, _, _ => stk
def bltD (b : Blt) (ds : List D) : EM D := match ds with
  | [d] => blt1 b d
  | [d, e] => blt2 b d e
  | [d, e, f] => blt3 b d e f
  | _ => stk
def joinO (a : Str) : Option (List Str) → EM D
  | some ys => bnd (guard' (fitB ((ys.map (·.length)).sum + ys.length * a.length))) fun _ => ret (.str (Txt.join a ys))
  | none => stk
def natO : Option Nat → EM D
  | some j => ret (.int (j : Nat))
  | none => stk
def appD (n : Nat) (d : D) : Cell → EM D
  | .lst l => bnd (guard' (decide (l.length < 16777216))) fun _ => bnd (setC n (.lst (l ++ [d]))) fun _ => ret .non
  | _ => stk
def extD (n : Nat) (l2 : List D) : Cell → EM D
  | .lst l => bnd (guard' (fitB (l.length + l2.length))) fun _ => bnd (setC n (.lst (l ++ l2))) fun _ => ret .non
  | _ => stk
def updD (n m : Nat) : Cell → Cell → EM D
  | .dic kvs, .dic more => bnd (guard' (n != m && fitB (kvs.length + more.length))) fun _ => bnd (setC n (.dic (mergeD kvs more))) fun _ => ret .non
  | _, _ => stk
def bmt1 : BMt → D → D → EM D
  | .split, .str a, .str b => bnd (guard' (!(b.length == 0) && fitB (a.length + 2))) fun _ => ret (.lst ((Txt.split a b).map .str))
  | .join, .str a, .lst l => joinO a (strsD l)
  | .startswith, .str a, .str b => ret (.bl (Txt.startswith a b))
  | .endswith, .str a, .str b => ret (.bl (Txt.endswith a b))
  | .index, .lst l, d => if ixOk l d then natO (ixP d l 0) else stk
  | .append, .ref n, d => bnd (getC n) (appD n d)
  | .extend, .ref n, .lst l2 => bnd (getC n) (extD n l2)
  | .update, .ref n, .ref m => bnd (getC n) fun c => bnd (getC m) fun c2 => updD n m c c2
  | _, _, _ => stk
def bmtD (m : BMt) (x : D) (ds : List D) : EM D := match ds with
  | [d] => bmt1 m x d
  | _ => stk
/-- the receiver is of the method's type -/
def kindD : BMt → D → EM Unit
  | .split, .str _ => ret ()
  | .join, .str _ => ret ()
  | .startswith, .str _ => ret ()
  | .endswith, .str _ => ret ()
  | .replace, .str _ => ret ()
  | .index, .lst _ => ret ()
  | .append, .ref n => bnd (getC n) fun c => match c with
    | .lst _ => ret ()
    | _ => stk
  | .extend, .ref n => bnd (getC n) fun c => match c with
    | .lst _ => ret ()
    | _ => stk
  | .update, .ref n => bnd (getC n) fun c => match c with
    | .dic _ => ret ()
    | _ => stk
  | _, _ => stk
def keyD : D → Option L2.Key
  | .int i => some (.inl i)
  | .str s => some (.inr s)
  | _ => none
def keyO (kvs : List (L2.Key × D)) : Option L2.Key → EM D
  | some k => ofO (valD kvs k)
  | none => stk
def idxC : Cell → D → EM D
  | .lst l, .int i => ofO (atD l i)
  | .dic kvs, k => keyO kvs (keyD k)
  | _, _ => stk
def idxD : D → D → EM D
  | .lst l, .int i => ofO (atD l i)
  | .tup l, .int i => ofO (atD l i)
  | .rol l, .int i => ofO (atD l i)
  | .str z, .int i => bnd (guard' (fitB z.length)) fun _ => ofO ((L2.atI z.cps.toList i).map fun c => .str ⟨#[c]⟩)
  | .ref n, k => bnd (getC n) fun c => idxC c k
  | _, _ => stk
def slcC (lo hi : Option Int) : Cell → EM D
  | .lst l => ret (.lst (cutD l lo hi))
  | _ => stk
def slcD : D → Option Int → Option Int → EM D
  | .lst l, lo, hi => ret (.lst (cutD l lo hi))
  | .tup l, lo, hi => ret (.tup (cutD l lo hi))
  | .str z, lo, hi => bnd (guard' (fitB z.length)) fun _ => ret (.str (L2.cutS z lo hi))
  | .ref n, lo, hi => bnd (getC n) (slcC lo hi)
  | _, _, _ => stk
/-- a, *b = a list -/
def hdtD (i j : Nat) (env : Env) : D → EM Env
  | .lst (x :: l) => bnd (guard' (decide (l.length < 16384))) fun _ => ret ((env.set i (some x)).set j (some (.lst l)))
  | _ => stk
def partD : D → EM (Option Int)
  | .int i => ret (some i)
  | _ => stk
def setIx (n : Nat) (l : List D) (d : D) : Option Nat → EM Unit
  | some j => setC n (.lst (l.set j d))
  | none => stk
def setKy (n : Nat) (kvs : List (L2.Key × D)) (d : D) : Option L2.Key → EM Unit
  | some k => bnd (guard' (decide (kvs.length < 16777216))) fun _ => setC n (.dic (putD kvs k d))
  | none => stk
def setCl (n : Nat) (d : D) : Cell → D → EM Unit
  | .lst l, .int i => setIx n l d (ixN l.length i)
  | .dic kvs, k => setKy n kvs d (keyD k)
  | _, _ => stk
def setD : D → D → D → EM Unit
  | .ref n, k, d => bnd (getC n) fun c => setCl n d c k
  | _, _, _ => stk
/-- the items that a loop walks -/
def itsD : D → EM (List D)
  | .lst l => ret l
  | .tup l => ret l
  | .rol l => ret l
  | .str z => ret (z.cps.toList.map fun c => .str ⟨#[c]⟩)
  | _ => stk
def enuD (l : List D) : List D := l.zipIdx.map fun p => .tup [.int (p.2 : Nat), p.1]
def fmtD : D → EM Str
  | .str s => bnd (guard' (fitB s.length)) fun _ => ret s
  | .int i => bnd (guard' (strOk i)) fun _ => ret ((toString i : String) : Str)
  | _ => stk
def clsOf : D → EM Nat
  | .obj c _ => ret c
  | .ref n => bnd (getC n) fun x => match x with
    | .obj c _ => ret c
    | _ => stk
  | _ => stk
def noEx {α : Type} (m : EM α) : EM α := fun h => match m h with
  | .ok a h' => .ok a h'
  | _ => .stuck
def wipeE (env : Env) : List Nat → Env
  | [] => env
  | v :: vs => (wipeE env vs).set v none
/-- the turns of a comprehension; its list is the n-th mutable object -/
def comL (f : D → EM (Option D)) (n : Nat) : List D → EM Unit
  | [] => ret ()
  | d :: l => bnd (f d) fun o => match o with
    | some y => bnd (getC n) fun c => match c with
      | .lst acc => bnd (guard' (decide (acc.length < 16777216))) fun _ => bnd (setC n (.lst (acc ++ [y]))) fun _ => comL f n l
      | _ => stk
    | none => comL f n l
def useD (o : Option Sem) (vs : List D) : EM D := match o with
  | some s => s vs
  | none => stk
def attD (C : Ctx) (f : Nat) (d : D) (c : Nat) (fs : List D) : EM D := match (C.flds c).idxOf? f with
  | some j => ofO fs[j]?
  | none => noEx (useD (C.pr c f) [d])
def attX (C : Ctx) (f : Nat) : D → EM D
  | .obj c fs => attD C f (.obj c fs) c fs
  | .ref n => bnd (getC n) fun y => match y with
    | .obj c fs => attD C f (.ref n) c fs
    | _ => stk
  | _ => stk
def setF (C : Ctx) (n f : Nat) (v : D) : Cell → EM Unit
  | .obj c fs => match (C.flds c).idxOf? f with
    | some j => bnd (guard' (decide (j ≤ fs.length))) fun _ => setC n (.obj c (fs.take j ++ v :: fs.drop (j + 1)))
    | none => stk
  | _ => stk
def setA (C : Ctx) (d : D) (f : Nat) (v : D) : EM Unit := match d with
  | .ref n => bnd (getC n) (setF C n f v)
  | _ => stk
def aEq : Nat := 0
def aLen : Nat := 1
def aItem : Nat := 2
def aAdd : Nat := 3
def D.isObj (c : Nat) : D → Bool
  | .obj c' _ => c' == c
  | _ => false
def asBl : D → EM Bool
  | .bl k => ret k
  | _ => stk
/-- a == b by the own __eq__ -/
def eqX (C : Ctx) (c : Nat) (a b : D) : EM Bool := bnd (guard' (b.isObj c)) fun _ => bnd (noEx (useD (C.mt c aEq 1) [a, b])) asBl
def cmpX (C : Ctx) (o : COp) (a b : D) : EM Bool := match o, a with
  | .eq, .obj c fs => eqX C c (.obj c fs) b
  | .ne, .obj c fs => bnd (eqX C c (.obj c fs) b) fun k => ret (!k)
  | o, a => ofO (cmpD o a b)
def addX (C : Ctx) (o : BOp) (x y : D) : EM D := match o, x with
  | .add, .obj c fs => bnd (guard' (y.isObj c)) fun _ => useD (C.mt c aAdd 1) [.obj c fs, y]
  | o, x => binD o x y
def lenX (C : Ctx) (b : Blt) (vs : List D) : EM D := match b, vs with
  | .len, [.obj c fs] => bnd (noEx (useD (C.mt c aLen 0) [.obj c fs])) fun r => match r with
    | .int n => bnd (guard' (decide (0 ≤ n) && decide (n < 2 ^ 63))) fun _ => ret (.int n)
    | _ => stk
  | b, vs => bltD b vs
def idxX (C : Ctx) (x y : D) : EM D := match x with
  | .obj c fs => useD (C.mt c aItem 1) [.obj c fs, y]
  | x => idxD x y
/-- a dict display: made empty, then filled -/
def fillD (n : Nat) (kvs : List (L2.Key × D)) : EM D := bnd (getC n) fun c => match c with
  | .dic [] => bnd (setC n (.dic (mergeD [] kvs))) fun _ => ret (.ref n)
  | _ => stk
def clsOk (C : Ctx) : D → Bool
  | .obj c _ => C.cls.contains c
  | _ => true
def tyOk (C : Ctx) : TyN → Bool
  | .cls c => C.cls.contains c
  | _ => true
def isiX (C : Ctx) (ts : List TyN) (x : D) : EM D := bnd (guard' (clsOk C x && ts.all (tyOk C))) fun _ => bnd (ofO (isTys ts x)) fun k => ret (.bl k)
def ginX (C : Ctx) (x : Nat) (neg : Bool) : D → EM D
  | .str s => bnd (ofO (C.gd x)) fun kvs => ret (.bl (if neg then !(kvs.lookup s).isSome else (kvs.lookup s).isSome))
  | _ => stk
def gixX (C : Ctx) (x : Nat) : D → EM D
  | .str s => bnd (ofO (C.gd x)) fun kvs => ofO (kvs.lookup s)
  | _ => stk
def mkD (C : Ctx) (c : Nat) (vs : List D) : EM D := bnd (newC (.obj c [])) fun r => bnd (useD (C.ini c vs.length) (r :: vs)) fun u => match u with
  | .non => ret r
  | _ => stk
def rngM : D → EM (List D)
  | .int n => bnd (guard' (decide (-(2 ^ 62) ≤ n) && decide (n < 16777216))) fun _ => ret ((List.range n.toNat).map fun i => .int (i : Nat))
  | _ => stk
def rng2M : D → D → EM (List D)
  | .int m, .int n => bnd (guard' (decide (-(2 ^ 62) ≤ m) && decide (m < 2 ^ 62) && decide (-(2 ^ 62) ≤ n) && decide (n < 2 ^ 62) && decide (n - m < 16777216))) fun _ => ret ((List.range (n - m).toNat).map fun i => .int (m + (i : Nat)))
  | _, _ => stk
def rng3M (c : Int) : D → D → EM (List D)
  | .int m, .int n => bnd (guard' (decide (c = -1) && decide (-(2 ^ 62) ≤ m) && decide (m < 2 ^ 62) && decide (-(2 ^ 62) ≤ n) && decide (n < 2 ^ 62) && decide (m - n < 16777216))) fun _ => ret ((List.range (m - n).toNat).map fun i => .int (m + (i : Nat) * c))
  | _, _ => stk
def enuM : D → EM (List D)
  | .lst l => ret (enuD l)
  | _ => stk
def zipM (x y : D) : EM (List D) := bnd (itsD x) fun l => bnd (itsD y) fun k => ret ((l.zip k).map fun p => .tup [p.1, p.2])
def tupT (n : Nat) (m : List D → Env → EM Env) : D → Env → EM Env := fun d env => match d with
  | .tup l => if l.length = n then m l env else stk
  | _ => stk
/-- a turn of a comprehension: the target, the test, the element -/
def turnM (mt : D → Env → EM Env) (mc : Env → EM Bool) (me : Env → EM D) (env : Env) (d : D) : EM (Option D) :=
  bnd (mt d env) fun env1 => bnd (mc env1) fun k => if k = true then bnd (me env1) fun y => ret (some y) else ret none
def comM (own : List Nat) (mi : Env → EM (List D)) (mt : D → Env → EM Env) (mc : Env → EM Bool) (me : Env → EM D) (env : Env) : EM D :=
  bnd (mi env) fun its => bnd (newN (.lst [])) fun n => bnd (noEx (comL (turnM mt mc me (wipeE env own)) n its)) fun _ => frzC (.ref n)
mutual
def evE (C : Ctx) : CE → Env → EM D
  | .con d, _ => ret d
  | .var i, env => getE env i
  | .frz i, env => bnd (getE env i) frzC
  | .glo x, _ => ofO (C.gvs.lookup x)
  | .neg e, env => bnd (evE C e env) fun x => match x with
    | .int i => ret (.int (-i))
    | _ => stk
  | .bin o a b, env => bnd (evE C a env) fun x => bnd (evE C b env) fun y => addX C o x y
  | .cmp o a b, env => bnd (evE C a env) fun x => bnd (evE C b env) fun y => bnd (cmpX C o x y) fun k => ret (.bl k)
  | .chn o p a b c, env => bnd (evE C a env) fun x => bnd (evE C b env) fun y => bnd (ofO (cmpD o x y)) fun k => if k = true then bnd (evE C c env) fun z => bnd (ofO (cmpD p y z)) fun k2 => ret (.bl k2) else ret (.bl false)
  | .and a b, env => bnd (evE C a env) fun x => bnd (truD x) fun k => if k = true then evE C b env else ret x
  | .or a b, env => bnd (evE C a env) fun x => bnd (truD x) fun k => if k = true then ret x else evE C b env
  | .not a, env => bnd (evE C a env) fun x => bnd (truD x) fun k => ret (.bl (!k))
  | .ite c a b, env => bnd (evE C c env) fun x => bnd (truD x) fun k => if k = true then evE C a env else evE C b env
  | .tup es, env => bnd (evL C es env) fun vs => bnd (guard' (fitB vs.length)) fun _ => ret (.tup vs)
  | .lst es, env => bnd (evL C es env) fun vs => bnd (guard' (fitB vs.length)) fun _ => ret (.lst vs)
  | .lsc es, env => bnd (evL C es env) fun vs => bnd (guard' (fitB vs.length)) fun _ => newC (.lst vs)
  | .dcc ks es, env => bnd (guard' (ks.length == es.len && decide (ks.length ≤ 15) && !ks.isEmpty)) fun _ => bnd (newN (.dic [])) fun n => bnd (evL C es env) fun vs => fillD n (ks.zip vs)
  | .gin x a neg, env => bnd (evE C a env) (ginX C x neg)
  | .gix x a, env => bnd (evE C a env) (gixX C x)
  | .idx a i, env => bnd (evE C a env) fun x => bnd (evE C i env) fun y => idxX C x y
  | .slc a lo hi, env => bnd (evE C a env) fun x => bnd (evO C lo env) fun l => bnd (evO C hi env) fun u => slcD x l u
  | .rev a, env => bnd (evE C a env) fun x => match x with
    | .lst l => ret (.lst l.reverse)
    | _ => stk
  | .att e f, env => bnd (evE C e env) fun x => attX C f x
  | .cal f es, env => bnd (evL C es env) fun vs => useD (C.fn f vs.length) vs
  | .mak c es, env => bnd (evL C es env) fun vs => bnd (mkD C c vs) frzC
  | .mkc c es, env => bnd (evL C es env) fun vs => mkD C c vs
  | .clm f c es, env => bnd (evL C es env) fun vs => useD (C.fn f (vs.length + 1)) (.cls c :: vs)
  | .mkv i c es, env => bnd (getE env i) fun x => match x with
    | .cls c' => if c' = c then bnd (evL C es env) fun vs => bnd (mkD C c vs) frzC else stk
    | _ => stk
  | .mth o m es, env => bnd (evE C o env) fun x => bnd (clsOf x) fun c => bnd (guard' (C.hasM c m)) fun _ => bnd (evL C es env) fun vs => useD (C.mt c m vs.length) (x :: vs)
  | .blt b es, env => bnd (evL C es env) fun vs => lenX C b vs
  | .bmt m o es, env => bnd (evE C o env) fun x => bnd (kindD m x) fun _ => bnd (evL C es env) fun vs => bmtD m x vs
  | .isi e ts, env => bnd (evE C e env) (isiX C ts)
  | .com own t i c e, env => comM own (evI C i) (asT C t) (evT C c) (evE C e) env
  | .fst es, env => bnd (evF C es env Str.empty) fun s => ret (.str s)
  | .hol, _ => stk
  | .dnw, _ => newC (.dic [])
def evL (C : Ctx) : CL → Env → EM (List D)
  | .nil, _ => ret []
  | .one e r, env => bnd (evE C e env) fun x => bnd (evL C r env) fun xs => ret (x :: xs)
  | .sta e r, env => bnd (evE C e env) fun x => match x with
    | .lst l => bnd (evL C r env) fun xs => ret (l ++ xs)
    | .tup l => bnd (evL C r env) fun xs => ret (l ++ xs)
    | _ => stk
def evO (C : Ctx) : CO → Env → EM (Option Int)
  | .no, _ => ret none
  | .so e, env => bnd (evE C e env) partD
def evT (C : Ctx) : CO → Env → EM Bool
  | .no, _ => ret true
  | .so e, env => bnd (evE C e env) truD
def evI (C : Ctx) : CI → Env → EM (List D)
  | .seq e, env => bnd (evE C e env) itsD
  | .rng a, env => bnd (evE C a env) rngM
  | .rng2 a b, env => bnd (evE C a env) fun x => bnd (evE C b env) fun y => rng2M x y
  | .rng3 a b c, env => bnd (evE C a env) fun x => bnd (evE C b env) fun y => rng3M c x y
  | .enu e, env => bnd (evE C e env) enuM
  | .zip a b, env => bnd (evE C a env) fun x => bnd (evE C b env) fun y => zipM x y
def asT (C : Ctx) : CT → D → Env → EM Env
  | .nam i, d, env => ret (env.set i (some d))
  | .tup ts, d, env => tupT ts.len (asTs C ts) d env
  | .sub a i, d, env => bnd (evE C a env) fun x => bnd (evE C i env) fun y => bnd (setD x y d) fun _ => ret env
  | .hdt i j, d, env => hdtD i j env d
  | .att a f, d, env => bnd (evE C a env) fun x => bnd (setA C x f d) fun _ => ret env
def asTs (C : Ctx) : CTL → List D → Env → EM Env
  | .nil, ds, env => match ds with
    | [] => ret env
    | _ => stk
  | .cons t r, ds, env => match ds with
    | d :: l => bnd (asT C t d env) fun env1 => asTs C r l env1
    | _ => stk
def evF (C : Ctx) : CL → Env → Str → EM Str
  | .nil, _, acc => ret acc
  | .one e r, env, acc => bnd (evE C e env) fun x => bnd (fmtD x) fun s => bnd (guard' (fitB (acc.length + s.length))) fun _ => evF C r env (acc ++ s)
  | .sta _ _, _, _ => stk
end

/-! ### statements -/
inductive Fl where | nx | ret (d : D) | brk | cnt
inductive SRes where | go (f : Fl) (env : Env) (h : LH) | ex (x : Exn) (env : Env) (h : LH) | stuck
def SM := LH → SRes
def sE {α : Type} (env : Env) (m : EM α) (f : α → SM) : SM := fun h => match m h with
  | .ok a h' => f a h'
  | .ex x h' => .ex x env h'
  | .stuck => .stuck
def sGo (f : Fl) (env : Env) : SM := fun h => .go f env h
def sStk : SM := fun _ => .stuck
def sSeq (m : SM) (f : Env → SM) : SM := fun h => match m h with
  | .go .nx env h' => f env h'
  | r => r
/-- a loop's body, then the next turn -/
def sTurn (m : SM) (f : Env → SM) : SM := fun h => match m h with
  | .go .nx env h' => f env h'
  | .go .cnt env h' => f env h'
  | .go .brk env h' => .go .nx env h'
  | r => r
@[simp] theorem sE_ret {α : Type} (env : Env) (a : α) (f : α → SM) : sE env (ret a) f = f a := rfl
@[simp] theorem sE_stk {α : Type} (env : Env) (f : α → SM) : sE env stk f = sStk := rfl
@[simp] theorem sE_bnd {α β : Type} (env : Env) (m : EM α) (g : α → EM β) (f : β → SM) : sE env (bnd m g) f = sE env m fun a => sE env (g a) f := by
  funext h
  show (match bnd m g h with | .ok a h' => f a h' | .ex x h' => .ex x env h' | .stuck => .stuck) = sE env m (fun a => sE env (g a) f) h
  unfold sE bnd
  cases m h <;> rfl
@[simp] theorem sSeq_go (env : Env) (f : Env → SM) : sSeq (sGo .nx env) f = f env := rfl
@[simp] theorem sSeq_ret (d : D) (env : Env) (f : Env → SM) : sSeq (sGo (.ret d) env) f = sGo (.ret d) env := rfl
@[simp] theorem sSeq_brk (env : Env) (f : Env → SM) : sSeq (sGo .brk env) f = sGo .brk env := rfl
@[simp] theorem sSeq_cnt (env : Env) (f : Env → SM) : sSeq (sGo .cnt env) f = sGo .cnt env := rfl
@[simp] theorem sSeq_stk (f : Env → SM) : sSeq sStk f = sStk := rfl
@[simp] theorem sTurn_go (env : Env) (f : Env → SM) : sTurn (sGo .nx env) f = f env := rfl
@[simp] theorem sTurn_cnt (env : Env) (f : Env → SM) : sTurn (sGo .cnt env) f = f env := rfl
@[simp] theorem sTurn_brk (env : Env) (f : Env → SM) : sTurn (sGo .brk env) f = sGo .nx env := rfl
@[simp] theorem sTurn_ret (d : D) (env : Env) (f : Env → SM) : sTurn (sGo (.ret d) env) f = sGo (.ret d) env := rfl
@[simp] theorem sSeq_sE {α : Type} (env : Env) (m : EM α) (g : α → SM) (f : Env → SM) : sSeq (sE env m g) f = sE env m fun a => sSeq (g a) f := by
  funext h
  unfold sSeq sE
  cases m h <;> rfl
@[simp] theorem sTurn_sE {α : Type} (env : Env) (m : EM α) (g : α → SM) (f : Env → SM) : sTurn (sE env m g) f = sE env m fun a => sTurn (g a) f := by
  funext h
  unfold sTurn sE
  cases m h <;> rfl
def forL (asg : D → Env → EM Env) (body : Env → SM) : List D → Env → SM
  | [], env => sGo .nx env
  | d :: l, env => sE env (noEx (asg d env)) fun env1 => sTurn (body env1) fun env2 => forL asg body l env2
def whlL (c : Env → EM Bool) (body : Env → SM) : Nat → Env → SM
  | 0, _ => sStk
  | n + 1, env => sE env (c env) fun k => if k = true then sTurn (body env) fun env2 => whlL c body n env2 else sGo .nx env
mutual
def evS (C : Ctx) : CS → Env → SM
  | .asg t e, env => sE env (evE C e env) fun d => sE env (noEx (asT C t d env)) fun env1 => sGo .nx env1
  | .aug i o e, env => sE env (getE env i) fun x => sE env (evE C e env) fun y => sE env (match x, y with
    | .int a, .int b => binD o (.int a) (.int b)
    | _, _ => stk) fun z => sGo .nx (env.set i (some z))
  | .exp e, env => sE env (evE C e env) fun _ => sGo .nx env
  | .ret e, env => sE env (evE C e env) fun d => sGo (.ret d) env
  | .retN, env => sGo (.ret .non) env
  | .ite c a b, env => sE env (bnd (evE C c env) truD) fun k => if k = true then evSs C a env else evSs C b env
  | .for_ t i b, env => sE env (evI C i env) fun its => forL (asT C t) (evSs C b) its env
  | .whl c b, env => whlL (fun env => bnd (evE C c env) truD) (evSs C b) C.fuel env
  | .brk, env => sGo .brk env
  | .cnt, env => sGo .cnt env
  | .pas, env => sGo .nx env
  | .bad, _ => sStk
  | .rai c e, env => sE env (evE C e env) fun d => fun h => .ex ⟨c, d⟩ env h
def evSs (C : Ctx) : CSs → Env → SM
  | .nil, env => sGo .nx env
  | .cons s r, env => sSeq (evS C s env) fun env1 => evSs C r env1
end
/-- a def: how many parameters, how many names in all, its body -/
structure Def where
  np : Nat
  ns : Nat
  body : CSs
def endS : SRes → Res D
  | .go .nx _ h => .ok .non h
  | .go (.ret d) _ h => .ok d h
  | .ex x _ h => .ex x h
  | _ => .stuck
def start (n : Nat) (vs : List D) : Env := vs.map some ++ List.replicate (n - vs.length) none
def Def.sem (d : Def) (C : Ctx) : Sem := fun vs h => if vs.length = d.np then endS (evSs C d.body (start d.ns vs) h) else .stuck
end SX
end
section
set_option Elab.async false
set_option linter.all false
set_option maxRecDepth 100000
/-! SX2: what stands for data on the abstract heap. -/
namespace SX
open PySem PySem.Spec PyProof.Rows L2

structure Tab where
  K : PySem.W.Frag
  cad : Nat → Addr
  atn : Nat → Str
  fld : Nat → List Nat
  gd : Bool
def Tab.names (T : Tab) (c : Nat) : List Str := (T.fld c).map T.atn

mutual
def Rep (T : Tab) (io : List Addr) (F : Hp) : D → V → Prop
  | .non, v => v = .non
  | .bl b, v => v = .bl b
  | .int i, v => v = .int i
  | .str s, v => v = .str s
  | .tup l, v => ∃ a xs, v = .ref a ∧ SqT T.K F a xs ∧ Reps T io F l xs
  | .lst l, v => ∃ a xs, v = .ref a ∧ F a = some (.lst xs) ∧ Reps T io F l xs
  | .rol l, v => ∃ a xs, v = .ref a ∧ SqL T.K F a xs ∧ Reps T io F l xs
  | .dic ks vs, v => ∃ a xs, v = .ref a ∧ F a = some (.dK xs) ∧ ks = xs.map (·.1) ∧ Reps T io F vs (xs.map (·.2))
  | .obj c fs, v => ∃ a dx xs, v = .ref a ∧ F a = some (.ins (T.cad c) dx ((T.names c).zip xs)) ∧ Reps T io F fs xs
  | .ref n, v => ∃ a, v = .ref a ∧ io[n]? = some a
  | .cls c, v => v = .ref (T.cad c)
def Reps (T : Tab) (io : List Addr) (F : Hp) : List D → List V → Prop
  | [], xs => xs = []
  | d :: l, xs => ∃ x r, xs = x :: r ∧ Rep T io F d x ∧ Reps T io F l r
end
theorem Same.seqT {K : PySem.W.Frag} {H H' : Hp} {a : Addr} {xs : List V} (e : L2.Same H H') (h : SqT K H a xs) : SqT K H' a xs := by
  rcases h with (h | ⟨o, h⟩) | h
  · exact .inl (.inl (e _ _ h))
  · exact .inl (.inr ⟨o, e _ _ h⟩)
  · exact .inr h
def Pre {α : Type} (a b : List α) : Prop := ∃ l, b = a ++ l
theorem Pre.rfl' {α : Type} (a : List α) : Pre a a := ⟨[], (List.append_nil a).symm⟩
theorem Pre.trans {α : Type} {a b c : List α} (h : Pre a b) (k : Pre b c) : Pre a c := by
  obtain ⟨l, rfl⟩ := h
  obtain ⟨m, rfl⟩ := k
  exact ⟨l ++ m, List.append_assoc _ _ _⟩
theorem Pre.get {α : Type} {a b : List α} (h : Pre a b) {n : Nat} {x : α} (e : a[n]? = some x) : b[n]? = some x := by
  obtain ⟨l, rfl⟩ := h
  have hn := (List.getElem?_eq_some_iff.mp e).1
  rw [List.getElem?_append_left hn]
  exact e
section
variable {T : Tab} {io io' : List Addr} {F F' : Hp}
mutual
theorem Rep.mono (hp : Pre io io') (s : L2.Same F F') : ∀ (d : D) (v : V), Rep T io F d v → Rep T io' F' d v
  | .non, v, h => h
  | .bl b, v, h => h
  | .int i, v, h => h
  | .str x, v, h => h
  | .tup l, v, h => by
    unfold Rep at h ⊢
    obtain ⟨a, xs, e, q, r⟩ := h
    exact ⟨a, xs, e, Same.seqT s q, Reps.mono hp s l xs r⟩
  | .lst l, v, h => by
    unfold Rep at h ⊢
    obtain ⟨a, xs, e, q, r⟩ := h
    exact ⟨a, xs, e, s _ _ q, Reps.mono hp s l xs r⟩
  | .rol l, v, h => by
    unfold Rep at h ⊢
    obtain ⟨a, xs, e, q, r⟩ := h
    exact ⟨a, xs, e, L2.Same.seq s q, Reps.mono hp s l xs r⟩
  | .dic ks vs, v, h => by
    unfold Rep at h ⊢
    obtain ⟨a, xs, e, q, z, r⟩ := h
    exact ⟨a, xs, e, s _ _ q, z, Reps.mono hp s vs _ r⟩
  | .obj c fs, v, h => by
    unfold Rep at h ⊢
    obtain ⟨a, dx, xs, e, q, r⟩ := h
    exact ⟨a, dx, xs, e, s _ _ q, Reps.mono hp s fs xs r⟩
  | .ref n, v, h => by
    unfold Rep at h ⊢
    obtain ⟨a, e, q⟩ := h
    exact ⟨a, e, hp.get q⟩
  | .cls c, v, h => h
theorem Reps.mono (hp : Pre io io') (s : L2.Same F F') : ∀ (l : List D) (xs : List V), Reps T io F l xs → Reps T io' F' l xs
  | [], xs, h => h
  | d :: l, xs, h => by
    unfold Reps at h ⊢
    obtain ⟨x, r, e, q, z⟩ := h
    exact ⟨x, r, e, Rep.mono hp s d x q, Reps.mono hp s l r z⟩
end
theorem Reps.cons {d : D} {l : List D} {x : V} {xs : List V} (h : Rep T io F d x) (r : Reps T io F l xs) : Reps T io F (d :: l) (x :: xs) := by
  unfold Reps
  exact ⟨x, xs, rfl, h, r⟩
theorem Reps.nil : Reps T io F [] [] := by
  unfold Reps
  rfl
theorem Reps.length : ∀ {l : List D} {xs : List V}, Reps T io F l xs → l.length = xs.length
  | [], xs, h => by
    unfold Reps at h
    rw [h]
    rfl
  | d :: l, xs, h => by
    unfold Reps at h
    obtain ⟨x, r, rfl, _, z⟩ := h
    exact congrArg Nat.succ (Reps.length z)
theorem Reps.get : ∀ {l : List D} {xs : List V} {i : Nat} {d : D}, Reps T io F l xs → l[i]? = some d → ∃ x, xs[i]? = some x ∧ Rep T io F d x
  | [], _, i, d, _, e => by simp at e
  | y :: l, xs, i, d, h, e => by
    unfold Reps at h
    obtain ⟨x, r, rfl, q, z⟩ := h
    cases i with
    | zero =>
      have e' : y = d := Option.some.inj e
      subst e'
      exact ⟨x, rfl, q⟩
    | succ i => exact Reps.get (i := i) z (by simpa using e)
theorem Reps.get' : ∀ {l : List D} {xs : List V} {i : Nat} {x : V}, Reps T io F l xs → xs[i]? = some x → ∃ d, l[i]? = some d ∧ Rep T io F d x
  | [], xs, i, x, h, e => by
    unfold Reps at h
    subst h
    simp at e
  | y :: l, xs, i, x, h, e => by
    unfold Reps at h
    obtain ⟨z, r, rfl, q, w⟩ := h
    cases i with
    | zero =>
      have e' : z = x := Option.some.inj e
      subst e'
      exact ⟨y, rfl, q⟩
    | succ i => exact Reps.get' (i := i) w (by simpa using e)
theorem Reps.append : ∀ {l k : List D} {xs ys : List V}, Reps T io F l xs → Reps T io F k ys → Reps T io F (l ++ k) (xs ++ ys)
  | [], _, xs, _, h, g => by
    unfold Reps at h
    subst h
    exact g
  | d :: l, _, xs, _, h, g => by
    unfold Reps at h
    obtain ⟨x, r, rfl, q, z⟩ := h
    exact Reps.cons q (Reps.append z g)
theorem Reps.set : ∀ {l : List D} {xs : List V} (i : Nat) {d : D} {x : V}, Reps T io F l xs → Rep T io F d x → Reps T io F (l.set i d) (xs.set i x)
  | [], xs, i, _, _, h, _ => by
    unfold Reps at h
    subst h
    exact Reps.nil
  | y :: l, xs, i, d, x, h, g => by
    unfold Reps at h
    obtain ⟨z, r, rfl, q, w⟩ := h
    cases i with
    | zero => exact Reps.cons g w
    | succ i => exact Reps.cons q (Reps.set i w g)
theorem Reps.take : ∀ {l : List D} {xs : List V} (n : Nat), Reps T io F l xs → Reps T io F (l.take n) (xs.take n)
  | _, _, 0, _ => Reps.nil
  | [], xs, n + 1, h => by
    unfold Reps at h
    subst h
    exact Reps.nil
  | d :: l, xs, n + 1, h => by
    unfold Reps at h
    obtain ⟨x, r, rfl, q, z⟩ := h
    exact Reps.cons q (Reps.take n z)
theorem Reps.drop : ∀ {l : List D} {xs : List V} (n : Nat), Reps T io F l xs → Reps T io F (l.drop n) (xs.drop n)
  | _, _, 0, h => h
  | [], xs, n + 1, h => by
    unfold Reps at h
    subst h
    exact Reps.nil
  | d :: l, xs, n + 1, h => by
    unfold Reps at h
    obtain ⟨x, r, rfl, q, z⟩ := h
    exact Reps.drop n z
theorem Reps.reverse : ∀ {l : List D} {xs : List V}, Reps T io F l xs → Reps T io F l.reverse xs.reverse
  | [], xs, h => by
    unfold Reps at h
    subst h
    exact Reps.nil
  | d :: l, xs, h => by
    unfold Reps at h
    obtain ⟨x, r, rfl, q, z⟩ := h
    rw [List.reverse_cons, List.reverse_cons]
    exact Reps.append (Reps.reverse z) (Reps.cons q Reps.nil)
theorem Reps.rep {l : List D} {xs : List V} (h : Reps T io F l xs) : ∀ k : Nat, Reps T io F (List.replicate k l).flatten (List.replicate k xs).flatten
  | 0 => Reps.nil
  | k + 1 => by
    rw [List.replicate_succ, List.replicate_succ, List.flatten_cons, List.flatten_cons]
    exact Reps.append h (Reps.rep h k)
theorem Reps.of_get : ∀ {l : List D} {xs : List V}, l.length = xs.length → (∀ (i : Nat) d x, l[i]? = some d → xs[i]? = some x → Rep T io F d x) → Reps T io F l xs
  | [], [], _, _ => Reps.nil
  | [], _ :: _, e, _ => by cases e
  | _ :: _, [], e, _ => by cases e
  | d :: l, x :: xs, e, h => Reps.cons (h 0 d x rfl rfl) (Reps.of_get (Nat.succ.inj e) fun i d' x' e1 e2 => h (i + 1) d' x' (by simpa using e1) (by simpa using e2))
end

/-! ### the live ones and the rest -/
def Live (io : List Addr) (h : LH) (a : Addr) : Prop := ∃ (n : Nat) (c : Cell), io[n]? = some a ∧ h[n]? = some (some c)
open Classical in
noncomputable def fz (io : List Addr) (h : LH) (H : Hp) : Hp := fun a => if Live io h a then none else H a
def CellAt (T : Tab) (io : List Addr) (F H : Hp) (a : Addr) : Cell → Prop
  | .lst l => ∃ xs, H a = some (.lst xs) ∧ Reps T io F l xs
  | .dic kvs => ∃ xs, H a = some (.dK xs) ∧ kvs.map (·.1) = xs.map (·.1) ∧ Reps T io F (kvs.map (·.2)) (xs.map (·.2))
  | .obj c fs => ∃ dx xs, H a = some (.ins (T.cad c) dx ((T.names c).zip xs)) ∧ fs.length ≤ (T.fld c).length ∧ Reps T io F fs xs
structure Sim (T : Tab) (io : List Addr) (h : LH) (H : Hp) : Prop where
  len : io.length = h.length
  nd : io.Nodup
  there : ∀ (n : Nat) a, io[n]? = some a → ∃ o, H a = some o
  cell : ∀ (n : Nat) a c, io[n]? = some a → h[n]? = some (some c) → CellAt T io (fz io h H) H a c
structure Grow (io : List Addr) (h : LH) (H : Hp) (io' : List Addr) (h' : LH) (H' : Hp) : Prop where
  pre : Pre io io'
  same : L2.Same (fz io h H) (fz io' h' H')
theorem Grow.refl (io : List Addr) (h : LH) (H : Hp) : Grow io h H io h H := ⟨Pre.rfl' io, L2.Same.refl _⟩
theorem Grow.trans {io io1 io2 : List Addr} {h h1 h2 : LH} {H H1 H2 : Hp} (a : Grow io h H io1 h1 H1) (b : Grow io1 h1 H1 io2 h2 H2) : Grow io h H io2 h2 H2 :=
  ⟨a.pre.trans b.pre, L2.Same.trans a.same b.same⟩
section
variable {T : Tab} {io : List Addr} {h : LH} {H : Hp}
theorem fz_some {a : Addr} {o : HO} (e : fz io h H a = some o) : H a = some o := by
  unfold fz at e
  split at e
  · cases e
  · exact e
theorem fz_of {a : Addr} (l : ¬ Live io h a) : fz io h H a = H a := by
  unfold fz
  rw [if_neg l]
theorem fz_live {a : Addr} (l : Live io h a) : fz io h H a = none := by
  unfold fz
  rw [if_pos l]
theorem fz_le : L2.Same (fz io h H) H := fun _ _ e => fz_some e
theorem Sim.notIn (S : Sim T io h H) {p : Addr} (n : H p = none) : ∀ (m : Nat), io[m]? ≠ some p := fun m e => by
  obtain ⟨o, q⟩ := S.there m p e
  rw [n] at q
  cases q
theorem Sim.notLive (S : Sim T io h H) {p : Addr} (n : H p = none) : ¬ Live io h p := fun ⟨m, c, e, _⟩ => S.notIn n m e
theorem fz_upd_new (S : Sim T io h H) {p : Addr} {o : HO} (n : H p = none) : fz io h (upd H p o) = upd (fz io h H) p o := by
  funext a
  by_cases e : a = p
  · subst e
    rw [fz_of (S.notLive n), upd_same, upd_same]
  · unfold fz
    rw [upd_ne e, upd_ne e]
theorem CellAt.mono {io' : List Addr} {F F' H' : Hp} {a : Addr} {c : Cell} (x : CellAt T io F H a c) (hp : Pre io io') (s : L2.Same F F') (e : H' a = H a) : CellAt T io' F' H' a c := by
  cases c with
  | lst l =>
    obtain ⟨xs, q, r⟩ := x
    exact ⟨xs, by rw [e]; exact q, Reps.mono hp s _ _ r⟩
  | dic kvs =>
    obtain ⟨xs, q, z, r⟩ := x
    exact ⟨xs, by rw [e]; exact q, z, Reps.mono hp s _ _ r⟩
  | obj c fs =>
    obtain ⟨dx, xs, q, z, r⟩ := x
    exact ⟨dx, xs, by rw [e]; exact q, z, Reps.mono hp s _ _ r⟩
/-- a new frozen thing -/
theorem Sim.alloc (S : Sim T io h H) {p : Addr} (o : HO) (n : H p = none) : Sim T io h (upd H p o) ∧ Grow io h H io h (upd H p o) := by
  have s : L2.Same (fz io h H) (fz io h (upd H p o)) := fun b u e => by
    rw [fz_upd_new S n, upd_ne (ne_of_none (fz_some e) n)]
    exact e
  refine ⟨⟨S.len, S.nd, fun m a e => ?_, fun m a c e1 e2 => ?_⟩, Pre.rfl' io, s⟩
  · obtain ⟨u, q⟩ := S.there m a e
    exact ⟨u, by rw [upd_ne (ne_of_none q n)]; exact q⟩
  · obtain ⟨u, q⟩ := S.there m a e1
    exact (S.cell m a c e1 e2).mono (Pre.rfl' io) s (upd_ne (ne_of_none q n))
theorem fz_new (S : Sim T io h H) {p : Addr} {o : HO} (n : H p = none) : fz io h (upd H p o) p = some o := by
  rw [fz_upd_new S n, upd_same]
theorem live_push (S : Sim T io h H) {p : Addr} (c : Cell) (n : H p = none) (a : Addr) : Live (io ++ [p]) (h ++ [some c]) a ↔ Live io h a ∨ a = p := by
  constructor
  · rintro ⟨m, c', e1, e2⟩
    by_cases hm : m < io.length
    · rw [List.getElem?_append_left hm] at e1
      rw [List.getElem?_append_left (by rw [← S.len]; exact hm)] at e2
      exact .inl ⟨m, c', e1, e2⟩
    · rw [List.getElem?_append_right (by omega)] at e1
      have z : m - io.length = 0 := by
        have := (List.getElem?_eq_some_iff.mp e1).1
        simp at this
        omega
      rw [z] at e1
      exact .inr (Option.some.inj e1).symm
  · rintro (⟨m, c', e1, e2⟩ | rfl)
    · have h1 := (List.getElem?_eq_some_iff.mp e1).1
      have h2 := (List.getElem?_eq_some_iff.mp e2).1
      exact ⟨m, c', by rw [List.getElem?_append_left h1]; exact e1, by rw [List.getElem?_append_left h2]; exact e2⟩
    · refine ⟨io.length, c, by simp, ?_⟩
      rw [S.len]
      simp
/-- a new mutable one -/
theorem Sim.push (S : Sim T io h H) {p : Addr} {o : HO} {c : Cell} (n : H p = none) (hc : CellAt T io (fz io h H) (upd H p o) p c) :
    Sim T (io ++ [p]) (h ++ [some c]) (upd H p o) ∧ Grow io h H (io ++ [p]) (h ++ [some c]) (upd H p o) := by
  have s : L2.Same (fz io h H) (fz (io ++ [p]) (h ++ [some c]) (upd H p o)) := fun b u e => by
    have hb : b ≠ p := ne_of_none (fz_some e) n
    have nl : ¬ Live io h b := fun l => by
      rw [fz_live l] at e
      cases e
    rw [fz_of (fun l => by
      rcases (live_push S c n b).mp l with l | l
      · exact nl l
      · exact hb l), upd_ne hb]
    exact fz_some e
  have hp : Pre io (io ++ [p]) := ⟨[p], rfl⟩
  refine ⟨⟨by simp [S.len], ?_, fun m a e => ?_, fun m a c' e1 e2 => ?_⟩, hp, s⟩
  · rw [List.nodup_append]
    refine ⟨S.nd, by simp, fun a ha b hb e => ?_⟩
    obtain ⟨m, hm, rfl⟩ := List.getElem_of_mem ha
    have hb' : b = p := by simpa using hb
    exact S.notIn n m (by rw [List.getElem?_eq_getElem hm, e, hb'])
  · by_cases hm : m < io.length
    · rw [List.getElem?_append_left hm] at e
      obtain ⟨u, q⟩ := S.there m a e
      exact ⟨u, by rw [upd_ne (ne_of_none q n)]; exact q⟩
    · rw [List.getElem?_append_right (by omega)] at e
      have z : m - io.length = 0 := by
        have := (List.getElem?_eq_some_iff.mp e).1
        simp at this
        omega
      rw [z] at e
      have ea : p = a := Option.some.inj e
      subst ea
      exact ⟨o, upd_same⟩
  · by_cases hm : m < io.length
    · rw [List.getElem?_append_left hm] at e1
      rw [List.getElem?_append_left (by rw [← S.len]; exact hm)] at e2
      obtain ⟨u, q⟩ := S.there m a e1
      exact (S.cell m a c' e1 e2).mono hp s (upd_ne (ne_of_none q n))
    · rw [List.getElem?_append_right (by omega)] at e1
      rw [List.getElem?_append_right (by rw [← S.len]; omega)] at e2
      have z : m - io.length = 0 := by
        have := (List.getElem?_eq_some_iff.mp e1).1
        simp at this
        omega
      rw [z] at e1
      rw [show m - h.length = 0 by rw [← S.len]; exact z] at e2
      have ea : p = a := Option.some.inj e1
      have ec : c = c' := Option.some.inj (Option.some.inj e2)
      subst ea
      subst ec
      exact hc.mono hp s rfl
theorem live_set (S : Sim T io h H) {n : Nat} {c c' : Cell} (e : h[n]? = some (some c)) (a : Addr) : Live io (h.set n (some c')) a ↔ Live io h a := by
  have hn := (List.getElem?_eq_some_iff.mp e).1
  constructor
  · rintro ⟨m, d, e1, e2⟩
    by_cases hm : m = n
    · subst hm
      exact ⟨m, c, e1, e⟩
    · rw [List.getElem?_set_ne (Ne.symm hm)] at e2
      exact ⟨m, d, e1, e2⟩
  · rintro ⟨m, d, e1, e2⟩
    by_cases hm : m = n
    · subst hm
      exact ⟨m, c', e1, by rw [List.getElem?_set_self hn]⟩
    · exact ⟨m, d, e1, by rw [List.getElem?_set_ne (Ne.symm hm)]; exact e2⟩
/-- a mutable one is changed -/
theorem Sim.put (S : Sim T io h H) {n : Nat} {a : Addr} {o : HO} {c c' : Cell} (ea : io[n]? = some a) (e : h[n]? = some (some c)) (hc : CellAt T io (fz io h H) (upd H a o) a c') :
    Sim T io (h.set n (some c')) (upd H a o) ∧ Grow io h H io (h.set n (some c')) (upd H a o) := by
  have hn := (List.getElem?_eq_some_iff.mp e).1
  have la : Live io h a := ⟨n, c, ea, e⟩
  have ef : fz io (h.set n (some c')) (upd H a o) = fz io h H := by
    funext b
    by_cases l : Live io h b
    · rw [fz_live l, fz_live ((live_set S e b).mpr l)]
    · rw [fz_of l, fz_of (fun q => l ((live_set S e b).mp q)), upd_ne (fun q => l (by rw [q]; exact la))]
  have s : L2.Same (fz io h H) (fz io (h.set n (some c')) (upd H a o)) := by
    rw [ef]
    exact L2.Same.refl _
  refine ⟨⟨by simp [S.len], S.nd, fun m b q => ?_, fun m b d e1 e2 => ?_⟩, Pre.rfl' io, s⟩
  · obtain ⟨u, z⟩ := S.there m b q
    by_cases hb : b = a
    · subst hb
      exact ⟨o, upd_same⟩
    · exact ⟨u, by rw [upd_ne hb]; exact z⟩
  · rw [ef]
    by_cases hm : m = n
    · subst hm
      rw [ea] at e1
      cases e1
      rw [List.getElem?_set_self hn] at e2
      cases e2
      exact hc
    · rw [List.getElem?_set_ne (Ne.symm hm)] at e2
      have hb : b ≠ a := fun q => by
        subst q
        exact hm (nd_ix S.nd e1 ea)
      exact (S.cell m b d e1 e2).mono (Pre.rfl' io) (L2.Same.refl _) (upd_ne hb)
/-- .. is frozen -/
theorem Sim.freeze (S : Sim T io h H) {n : Nat} {a : Addr} {c : Cell} (ea : io[n]? = some a) (e : h[n]? = some (some c)) :
    Sim T io (h.set n none) H ∧ Grow io h H io (h.set n none) H ∧ Rep T io (fz io (h.set n none) H) c.frz (.ref a) := by
  have hn := (List.getElem?_eq_some_iff.mp e).1
  have lv : ∀ b, Live io (h.set n none) b → Live io h b ∧ b ≠ a := fun b ⟨m, d, e1, e2⟩ => by
    by_cases hm : m = n
    · subst hm
      rw [List.getElem?_set_self hn] at e2
      cases e2
    · rw [List.getElem?_set_ne (Ne.symm hm)] at e2
      exact ⟨⟨m, d, e1, e2⟩, fun q => by
        subst q
        exact hm (nd_ix S.nd e1 ea)⟩
  have s : L2.Same (fz io h H) (fz io (h.set n none) H) := fun b u q => by
    have nl : ¬ Live io h b := fun l => by
      rw [fz_live l] at q
      cases q
    rw [fz_of (fun l => nl (lv b l).1)]
    exact fz_some q
  have na : fz io (h.set n none) H a = H a := fz_of fun l => (lv a l).2 rfl
  refine ⟨⟨by simp [S.len], S.nd, S.there, fun m b d e1 e2 => ?_⟩, ⟨Pre.rfl' io, s⟩, ?_⟩
  · by_cases hm : m = n
    · subst hm
      rw [List.getElem?_set_self hn] at e2
      cases e2
    · rw [List.getElem?_set_ne (Ne.symm hm)] at e2
      exact (S.cell m b d e1 e2).mono (Pre.rfl' io) s rfl
  · have q := S.cell n a c ea e
    cases c with
    | lst l =>
      obtain ⟨xs, z, r⟩ := q
      unfold Cell.frz Rep
      exact ⟨a, xs, rfl, by rw [na]; exact z, Reps.mono (Pre.rfl' io) s _ _ r⟩
    | dic kvs =>
      obtain ⟨xs, z, w, r⟩ := q
      unfold Cell.frz Rep
      exact ⟨a, xs, rfl, by rw [na]; exact z, w, Reps.mono (Pre.rfl' io) s _ _ r⟩
    | obj cc fs =>
      obtain ⟨dx, xs, z, w, r⟩ := q
      unfold Cell.frz Rep
      exact ⟨a, dx, xs, rfl, by rw [na]; exact z, Reps.mono (Pre.rfl' io) s _ _ r⟩
end
end SX
end
section
set_option Elab.async false
set_option linter.all false
set_option maxRecDepth 100000
set_option maxHeartbeats 1000000
/-! SX3: what an evaluation promises of the machine; expressions over values. -/
namespace SX
open PySem PySem.Spec PyProof.Rows L2

def RepX (T : Tab) (io : List Addr) (F : Hp) (x : Exn) (cls : Value) (dd : Option Addr) : Prop :=
  cls = .ref (T.cad x.c) ∧ ∃ d v, dd = some d ∧ F d = some (.xd [(T.atn ((T.fld x.c).headD 0), v)]) ∧ Rep T io F x.v v
abbrev NoW : WX := fun _ _ _ _ => False
def Post {α β : Type} (T : Tab) (io : List Addr) (h : LH) (H : Hp) (σ : L2.St) (W : WX) (R : List Addr → Hp → α → β → Prop) (Q : β → Hp → Prop) : Res α → Prop
  | .ok a h' => ∀ io' H' b, Sim T io' h' H' → Grow io h H io' h' H' → R io' (fz io' h' H') a b → Q b H'
  | .ex x h' => ∀ io' H' cls dd, Sim T io' h' H' → Grow io h H io' h' H' → RepX T io' (fz io' h' H') x cls dd → W cls dd σ H'
  | .stuck => False
section
variable {T : Tab} {io : List Addr} {h : LH} {H : Hp} {σ : L2.St} {W : WX}
theorem Post.mono {α β : Type} {R : List Addr → Hp → α → β → Prop} {Q Q' : β → Hp → Prop} {r : Res α} (p : Post T io h H σ W R Q r) (q : ∀ b H', Q b H' → Q' b H') : Post T io h H σ W R Q' r := by
  cases r with
  | ok a h' => exact fun io' H' b S G r => q _ _ (p io' H' b S G r)
  | ex x h' => exact p
  | stuck => exact p
theorem Post.from {α β : Type} {R : List Addr → Hp → α → β → Prop} {Q : β → Hp → Prop} {r : Res α} {io1 : List Addr} {h1 : LH} {H1 : Hp} (p : Post T io h H σ W R Q r) (G : Grow io h H io1 h1 H1) : Post T io1 h1 H1 σ W R Q r := by
  cases r with
  | ok a h' => exact fun io' H' b S G' r => p io' H' b S (G.trans G') r
  | ex x h' => exact fun io' H' c d S G' r => p io' H' c d S (G.trans G') r
  | stuck => exact p
/-- what is known behind the first of two -/
def Mid {α β γ : Type} (T : Tab) (io : List Addr) (h : LH) (H : Hp) (σ : L2.St) (W : WX) (R : List Addr → Hp → α → β → Prop) (k : α → EM γ) (P : List Addr → LH → Hp → Res γ → Prop) (b : β) (H1 : Hp) : Prop :=
  ∃ a io1 h1, Sim T io1 h1 H1 ∧ Grow io h H io1 h1 H1 ∧ R io1 (fz io1 h1 H1) a b ∧ P io1 h1 H1 (k a h1)
theorem Post.bind {α β γ δ : Type} {R : List Addr → Hp → α → β → Prop} {R2 : List Addr → Hp → γ → δ → Prop} {Q : δ → Hp → Prop} {m : EM α} {k : α → EM γ} (p : Post T io h H σ W R2 Q (bnd m k h)) :
    Post T io h H σ W R (Mid T io h H σ W R k fun io1 h1 H1 r => Post T io1 h1 H1 σ W R2 Q r) (m h) := by
  unfold bnd at p
  cases e : m h with
  | ok a h' =>
    rw [e] at p
    exact fun io' H' b S G r => ⟨a, io', h', S, G, r, Post.from p G⟩
  | ex x h' =>
    rw [e] at p
    exact p
  | stuck =>
    rw [e] at p
    exact p
theorem Post.guard {β γ : Type} {R : List Addr → Hp → γ → β → Prop} {Q : β → Hp → Prop} {b : Bool} {k : Unit → EM γ} (p : Post T io h H σ W R Q (bnd (guard' b) k h)) : b = true ∧ Post T io h H σ W R Q (k () h) := by
  cases b with
  | true => exact ⟨rfl, p⟩
  | false => exact False.elim p
theorem Post.ofO {α β γ : Type} {R : List Addr → Hp → γ → β → Prop} {Q : β → Hp → Prop} {o : Option α} {k : α → EM γ} (p : Post T io h H σ W R Q (bnd (ofO o) k h)) : ∃ a, o = some a ∧ Post T io h H σ W R Q (k a h) := by
  cases o with
  | some a => exact ⟨a, rfl, p⟩
  | none => exact False.elim p
theorem Post.ofO' {α β : Type} {R : List Addr → Hp → α → β → Prop} {Q : β → Hp → Prop} {o : Option α} (p : Post T io h H σ W R Q (SX.ofO o h)) : ∃ a, o = some a ∧ Post T io h H σ W R Q (ret a h) := by
  cases o with
  | some a => exact ⟨a, rfl, p⟩
  | none => exact False.elim p
theorem getC_cases (n : Nat) (h : LH) : (∃ c, h[n]? = some (some c) ∧ SX.getC n h = .ok c h) ∨ SX.getC n h = .stuck := by
  unfold SX.getC
  split
  · rename_i c q
    exact .inl ⟨c, q, rfl⟩
  · exact .inr rfl
theorem Post.getC {β γ : Type} {n : Nat} {R : List Addr → Hp → γ → β → Prop} {Q : β → Hp → Prop} {k : Cell → EM γ} (p : Post T io h H σ W R Q (bnd (SX.getC n) k h)) : ∃ c, h[n]? = some (some c) ∧ Post T io h H σ W R Q (k c h) := by
  unfold bnd at p
  rcases getC_cases n h with ⟨c, e, q⟩ | q
  · rw [q] at p
    exact ⟨c, e, p⟩
  · rw [q] at p
    exact False.elim p
theorem Post.here {α β : Type} {R : List Addr → Hp → α → β → Prop} {Q : β → Hp → Prop} {a : α} {b : β} (p : Post T io h H σ W R Q (ret a h)) (S : Sim T io h H) (r : R io (fz io h H) a b) : Q b H :=
  p io H b S (Grow.refl _ _ _) r
/-- a new frozen thing is the value -/
theorem Post.alloc {α β : Type} {R : List Addr → Hp → α → β → Prop} {Q : β → Hp → Prop} {a : α} {b : β} {p : Addr} {o : HO} (po : Post T io h H σ W R Q (ret a h)) (S : Sim T io h H) (n : H p = none) (r : R io (upd (fz io h H) p o) a b) : Q b (upd H p o) := by
  obtain ⟨S', G⟩ := S.alloc o n
  exact po io (upd H p o) b S' G (by rw [fz_upd_new S n]; exact r)
end

/-! ### the names' values -/
structure REnv (T : Tab) (io : List Addr) (F : Hp) (env : Env) (σ : L2.St) : Prop where
  len : env.length = σ.length
  at_ : ∀ (i : Nat) d, env[i]? = some (some d) → ∃ v, σ[i]? = some (some v) ∧ Rep T io F d v
theorem REnv.mono {T : Tab} {io io' : List Addr} {F F' : Hp} {env : Env} {σ : L2.St} (r : REnv T io F env σ) (hp : Pre io io') (s : L2.Same F F') : REnv T io' F' env σ :=
  ⟨r.len, fun i d e => let ⟨v, q, z⟩ := r.at_ i d e; ⟨v, q, Rep.mono hp s _ _ z⟩⟩
theorem REnv.grow {T : Tab} {io io' : List Addr} {h h' : LH} {H H' : Hp} {env : Env} {σ : L2.St} (r : REnv T io (fz io h H) env σ) (g : Grow io h H io' h' H') : REnv T io' (fz io' h' H') env σ := r.mono g.pre g.same
theorem REnv.set {T : Tab} {io : List Addr} {F : Hp} {env : Env} {σ : L2.St} (r : REnv T io F env σ) (i : Nat) {d : D} {v : V} (h : Rep T io F d v) : REnv T io F (env.set i (some d)) (σ.set i (some v)) := by
  refine ⟨by simp [r.len], fun j d' e => ?_⟩
  by_cases hj : i = j
  · subst hj
    have hl := (List.getElem?_eq_some_iff.mp e).1
    rw [List.length_set] at hl
    rw [List.getElem?_set_self hl] at e
    cases e
    exact ⟨v, by rw [List.getElem?_set_self (by rw [← r.len]; exact hl)], h⟩
  · rw [List.getElem?_set_ne hj] at e
    obtain ⟨u, q, z⟩ := r.at_ j d' e
    exact ⟨u, by rw [List.getElem?_set_ne hj]; exact q, z⟩
theorem REnv.wipe {T : Tab} {io : List Addr} {F : Hp} {env : Env} {σ : L2.St} (r : REnv T io F env σ) : ∀ vs : List Nat, REnv T io F (wipeE env vs) (L2.wipe σ vs)
  | [] => r
  | v :: vs => by
    have ih := REnv.wipe r vs
    unfold wipeE L2.wipe
    refine ⟨by simp [ih.len], fun j d' e => ?_⟩
    by_cases hj : v = j
    · subst hj
      have hl := (List.getElem?_eq_some_iff.mp e).1
      rw [List.length_set] at hl
      rw [List.getElem?_set_self hl] at e
      cases e
    · rw [List.getElem?_set_ne hj] at e
      obtain ⟨u, q, z⟩ := ih.at_ j d' e
      exact ⟨u, by rw [List.getElem?_set_ne hj]; exact q, z⟩

/-! ### readings by evaluation -/
/-- what is wanted behind an evaluation from (env, h), over some state of the machine's -/
def tM {α β : Type} (T : Tab) (W : WX) (R : List Addr → Hp → α → β → Prop) (m : Env → EM α) : L2.St → Hp → (β → Hp → Prop) → Prop := fun σ H Q =>
  ∃ io h env, Sim T io h H ∧ REnv T io (fz io h H) env σ ∧ Post T io h H σ W R Q (m env h)
abbrev tE (T : Tab) (W : WX) (m : Env → EM D) : TE := tM T W (Rep T) m
abbrev tA (T : Tab) (W : WX) (m : Env → EM (List D)) : TA := tM T W (Reps T) m
abbrev RB : List Addr → Hp → Bool → Bool → Prop := fun _ _ a b => a = b
abbrev tT (T : Tab) (W : WX) (m : Env → EM Bool) : TT := tM T W RB m
theorem _root_.L2.PE.imp {X : Cx} {e : Expr} {t t' : TE} (h : PE X e t) (w : ∀ σ H Q, t' σ H Q → t σ H Q) : PE X e t' := ⟨fun pins s σ H Q I q => h.run pins s σ H Q I (w σ H Q q)⟩
theorem _root_.L2.PT.imp {X : Cx} {e : Expr} {t t' : TT} (h : PT X e t) (w : ∀ σ H Q, t' σ H Q → t σ H Q) : PT X e t' := ⟨fun pins s σ H Q I q => h.run pins s σ H Q I (w σ H Q q)⟩
theorem _root_.L2.PA.imp {X : Cx} {e : List Expr} {t t' : TA} (h : PA X e t) (w : ∀ σ H Q, t' σ H Q → t σ H Q) : PA X e t' := ⟨fun pos pins s σ H Q I q => h.run pos pins s σ H Q I (w σ H Q q)⟩
theorem _root_.L2.PS.imp {X : Cx} {e : Stmt} {t t' : TS} (h : PS X e t) (w : ∀ D σ H, t' D σ H → t D σ H) : PS X e t' := ⟨fun pins s σ H D I q => h.run pins s σ H D I (w D σ H q)⟩
theorem _root_.L2.PSs.imp {X : Cx} {e : List Stmt} {t t' : TS} (h : PSs X e t) (w : ∀ D σ H, t' D σ H → t D σ H) : PSs X e t' := ⟨fun pins s σ H D I q => h.run pins s σ H D I (w D σ H q)⟩
/-- a first part, then the rest -/
theorem step {α β γ δ : Type} {T : Tab} {W : WX} {R : List Addr → Hp → α → β → Prop} {R2 : List Addr → Hp → γ → δ → Prop} {m : Env → EM α} {k : α → EM γ} {σ : L2.St} {H : Hp} {Q : δ → Hp → Prop} {P : β → Hp → Prop} {io : List Addr} {h : LH} {env : Env}
    (S : Sim T io h H) (r : REnv T io (fz io h H) env σ) (p : Post T io h H σ W R2 Q (bnd (m env) k h))
    (n : ∀ io1 h1 a b H1, Sim T io1 h1 H1 → Grow io h H io1 h1 H1 → R io1 (fz io1 h1 H1) a b → Post T io1 h1 H1 σ W R2 Q (k a h1) → P b H1) : tM T W R m σ H P := by
  refine ⟨io, h, env, S, r, (Post.bind (R := R) p).mono fun b H1 z => ?_⟩
  obtain ⟨a, io1, h1, S1, G, ra, q1⟩ := z
  exact n io1 h1 a b H1 S1 G ra q1
theorem Rep.grow {T : Tab} {io io' : List Addr} {h h' : LH} {H H' : Hp} {d : D} {v : V} (r : Rep T io (fz io h H) d v) (g : Grow io h H io' h' H') : Rep T io' (fz io' h' H') d v := Rep.mono g.pre g.same _ _ r
theorem Reps.grow {T : Tab} {io io' : List Addr} {h h' : LH} {H H' : Hp} {d : List D} {v : List V} (r : Reps T io (fz io h H) d v) (g : Grow io h H io' h' H') : Reps T io' (fz io' h' H') d v := Reps.mono g.pre g.same _ _ r
/-- the rest, as an evaluation of its own -/
theorem tM.of {α β : Type} {T : Tab} {W : WX} {R : List Addr → Hp → α → β → Prop} {m : Env → EM α} {σ : L2.St} {H : Hp} {Q : β → Hp → Prop} {io : List Addr} {h : LH} {env : Env} (S : Sim T io h H) (r : REnv T io (fz io h H) env σ) (p : Post T io h H σ W R Q (m env h)) : tM T W R m σ H Q := ⟨io, h, env, S, r, p⟩

section
variable {X : Cx} {T : Tab} {W : WX}
/-! ### names and constants -/
theorem ok_con {d : D} {v : V} {e : Expr} (h : PE X e (tC v)) (r : ∀ io F, Rep T io F d v) : PE X e (tE T W fun _ => ret d) :=
  h.imp fun σ H Q ⟨io, h, env, S, _, p⟩ => Post.here p S (r _ _)
theorem getE_cases (env : Env) (i : Nat) : (∃ d, env[i]? = some (some d) ∧ getE env i = ret d) ∨ getE env i = stk := by
  unfold getE
  split
  · rename_i d e
    exact .inl ⟨d, e, rfl⟩
  · exact .inr rfl
theorem ok_var {i : Nat} {e : Expr} (h : PE X e (tVar i)) : PE X e (tE T W fun env => getE env i) := by
  refine h.imp fun σ H Q ⟨io, h, env, S, r, p⟩ => ?_
  dsimp only at p
  rcases getE_cases env i with ⟨d, e, q⟩ | q
  · rw [q] at p
    obtain ⟨v, q, z⟩ := r.at_ i d e
    exact ⟨v, q, Post.here p S z⟩
  · rw [q] at p
    exact False.elim p
theorem frzC_ok {σ : L2.St} {io : List Addr} {h : LH} {H : Hp} {Q : V → Hp → Prop} {d : D} {v : V} (S : Sim T io h H) (r : Rep T io (fz io h H) d v) (p : Post T io h H σ W (Rep T) Q (frzC d h)) : Q v H := by
  cases d with
  | ref n =>
    unfold frzC at p
    unfold Rep at r
    obtain ⟨a, rfl, ea⟩ := r
    dsimp only at p
    split at p
    · rename_i c e
      obtain ⟨S', G, z⟩ := S.freeze ea e
      exact p io H _ S' G z
    · exact False.elim p
  | _ => exact Post.here p S r
theorem ok_frz {i : Nat} {e : Expr} (h : PE X e (tVar i)) : PE X e (tE T W fun env => bnd (getE env i) frzC) := by
  refine h.imp fun σ H Q ⟨io, h, env, S, r, p⟩ => ?_
  dsimp only at p
  rcases getE_cases env i with ⟨d, e, q⟩ | q
  · rw [q] at p
    obtain ⟨v, q, z⟩ := r.at_ i d e
    exact ⟨v, q, frzC_ok S z p⟩
  · rw [q] at p
    exact False.elim p
/-! ### operators -/
/-- an operator of two values, by data -/
def rD (T : Tab) (f : D → D → EM D) : R2 := fun x y H Q => ∃ io h dx dy, Sim T io h H ∧ Rep T io (fz io h H) dx x ∧ Rep T io (fz io h H) dy y ∧ Post T io h H [] NoW (Rep T) Q (f dx dy h)
/-- raises nothing -/
def Calm {α : Type} (m : EM α) : Prop := ∀ h x h', m h ≠ .ex x h'
theorem Calm.post {α β : Type} {io : List Addr} {h : LH} {H : Hp} {σ σ' : L2.St} {W' : WX} {R : List Addr → Hp → α → β → Prop} {Q : β → Hp → Prop} {m : EM α} (c : Calm m) (p : Post T io h H σ W R Q (m h)) : Post T io h H σ' W' R Q (m h) := by
  cases e : m h with
  | ok a h' =>
    rw [e] at p
    exact p
  | ex x h' => exact absurd e (c h x h')
  | stuck =>
    rw [e] at p
    exact p
theorem Calm.ret {α : Type} (a : α) : Calm (SX.ret a) := fun _ _ _ e => by cases e
theorem Calm.stk {α : Type} : Calm (stk : EM α) := fun _ _ _ e => by cases e
theorem Calm.guard (b : Bool) : Calm (guard' b) := by
  cases b
  · exact Calm.stk
  · exact Calm.ret _
theorem Calm.bnd {α β : Type} {m : EM α} {f : α → EM β} (c : Calm m) (d : ∀ a, Calm (f a)) : Calm (SX.bnd m f) := fun h x h' e => by
  unfold SX.bnd at e
  cases q : m h with
  | ok a h1 =>
    rw [q] at e
    exact d a h1 x h' e
  | ex y h1 => exact c h y h1 q
  | stuck =>
    rw [q] at e
    cases e
theorem Calm.ofO {α : Type} (o : Option α) : Calm (SX.ofO o) := by
  cases o
  · exact Calm.stk
  · exact Calm.ret _
theorem Calm.getC (n : Nat) : Calm (SX.getC n) := fun h x h' e => by
  unfold SX.getC at e
  split at e <;> cases e
theorem Calm.setC (n : Nat) (c : Cell) : Calm (SX.setC n c) := fun h x h' e => by
  unfold SX.setC at e
  split at e <;> cases e
theorem Calm.noEx {α : Type} (m : EM α) : Calm (SX.noEx m) := fun h x h' e => by
  unfold SX.noEx at e
  split at e <;> cases e
theorem noEx_post {α β : Type} {io : List Addr} {h : LH} {H : Hp} {σ σ' : L2.St} {W' : WX} {R : List Addr → Hp → α → β → Prop} {Q : β → Hp → Prop} {m : EM α} (p : Post T io h H σ W R Q (SX.noEx m h)) : Post T io h H σ' W' R Q (m h) := by
  unfold SX.noEx at p
  split at p
  · rename_i a h' e
    rw [e]
    exact p
  · exact False.elim p
theorem ok_bin {op : Operator} {f : D → D → EM D} {a b : Expr} {pos : Pos} {ma mb : Env → EM D} (o : OpR X (binaryOp op) (rD T f)) (c : ∀ x y, Calm (f x y)) (ha : PE X a (tE T W ma)) (hb : PE X b (tE T W mb)) :
    PE X (.BinOp a op b pos) (tE T W fun env => bnd (ma env) fun x => bnd (mb env) fun y => f x y) := by
  refine (pe_op o ha hb).imp fun σ H Q ⟨io, h, env, S, r, p⟩ => ?_
  refine step S r p fun io1 h1 d v H1 S1 G1 rd p1 => ?_
  refine step S1 (r.grow G1) p1 fun io2 h2 d2 v2 H2 S2 G2 rd2 p2 => ?_
  exact ⟨io2, h2, d, d2, S2, rd.grow G2, rd2, (c d d2).post p2⟩
end
end SX
end
section
set_option Elab.async false
set_option linter.all false
set_option maxRecDepth 100000
set_option maxHeartbeats 1000000
/-! SX4: operators, built-in calls and methods, by data. -/
namespace SX
open PySem PySem.Spec PyProof.Rows L2

/-! ### data as the library reads it -/
section
variable {T : Tab} {io : List Addr} {F H : Hp}
mutual
theorem Rep.dp (s : L2.Same F H) : ∀ (d : D) (p : PyData) (v : V), d.toP = some p → Rep T io F d v → Dp T.K H v p
  | .non, p, v, e, r => by
    unfold D.toP at e
    cases e
    unfold Rep at r
    rw [r]
    exact .non
  | .bl b, p, v, e, r => by
    unfold D.toP at e
    cases e
    unfold Rep at r
    rw [r]
    exact .bl b
  | .int i, p, v, e, r => by
    unfold D.toP at e
    cases e
    unfold Rep at r
    rw [r]
    exact .int i
  | .str i, p, v, e, r => by
    unfold D.toP at e
    cases e
    unfold Rep at r
    rw [r]
    exact .str i
  | .tup l, p, v, e, r => by
    unfold D.toP at e
    obtain ⟨ps, e1, rfl⟩ := Option.map_eq_some_iff.mp e
    unfold Rep at r
    obtain ⟨a, xs, rfl, q, rr⟩ := r
    exact .tup (Same.seqT s q) (Reps.dp s l ps xs e1 rr)
  | .lst l, p, v, e, r => by
    unfold D.toP at e
    obtain ⟨ps, e1, rfl⟩ := Option.map_eq_some_iff.mp e
    unfold Rep at r
    obtain ⟨a, xs, rfl, q, rr⟩ := r
    exact .lst (SqL.of (s _ _ q)) (Reps.dp s l ps xs e1 rr)
  | .rol l, p, v, e, r => by
    unfold D.toP at e
    cases e
  | .dic ks vs, p, v, e, r => by
    unfold D.toP at e
    cases e
  | .obj c fs, p, v, e, r => by
    unfold D.toP at e
    cases e
  | .ref n, p, v, e, r => by
    unfold D.toP at e
    cases e
  | .cls c, p, v, e, r => by
    unfold D.toP at e
    cases e
theorem Reps.dp (s : L2.Same F H) : ∀ (l : List D) (ps : List PyData) (xs : List V), D.toPs l = some ps → Reps T io F l xs → DpAll T.K H xs ps
  | [], ps, xs, e, r => by
    unfold D.toPs at e
    cases e
    unfold Reps at r
    rw [r]
    exact .nil
  | d :: l, ps, xs, e, r => by
    unfold D.toPs at e
    unfold Reps at r
    obtain ⟨x, rs, rfl, rd, rr⟩ := r
    split at e
    · rename_i p qs e1 e2
      cases e
      exact .cons (Rep.dp s d p x e1 rd) (Reps.dp s l qs rs e2 rr)
    · cases e
end
theorem reps_ints (r : ∀ l : List D, List V → Prop) : True := trivial
theorem Reps.ints : ∀ {l : List D} {is : List Int} {xs : List V}, intsD l = some is → Reps T io F l xs → xs = is.map V.int
  | [], is, xs, e, r => by
    unfold intsD at e
    cases e
    unfold Reps at r
    rw [r]
    rfl
  | d :: l, is, xs, e, r => by
    unfold Reps at r
    obtain ⟨x, rs, rfl, rd, rr⟩ := r
    cases d with
    | int i =>
      unfold intsD at e
      obtain ⟨js, e1, rfl⟩ := Option.map_eq_some_iff.mp e
      unfold Rep at rd
      rw [rd, Reps.ints e1 rr]
      rfl
    | _ => unfold intsD at e; cases e
theorem Reps.strs : ∀ {l : List D} {is : List Str} {xs : List V}, strsD l = some is → Reps T io F l xs → xs = is.map V.str
  | [], is, xs, e, r => by
    unfold strsD at e
    cases e
    unfold Reps at r
    rw [r]
    rfl
  | d :: l, is, xs, e, r => by
    unfold Reps at r
    obtain ⟨x, rs, rfl, rd, rr⟩ := r
    cases d with
    | str i =>
      unfold strsD at e
      obtain ⟨js, e1, rfl⟩ := Option.map_eq_some_iff.mp e
      unfold Rep at rd
      rw [rd, Reps.strs e1 rr]
      rfl
    | _ => unfold strsD at e; cases e
theorem Reps.bls : ∀ {l : List D} {is : List Bool} {xs : List V}, blsD l = some is → Reps T io F l xs → xs = is.map V.bl
  | [], is, xs, e, r => by
    unfold blsD at e
    cases e
    unfold Reps at r
    rw [r]
    rfl
  | d :: l, is, xs, e, r => by
    unfold Reps at r
    obtain ⟨x, rs, rfl, rd, rr⟩ := r
    cases d with
    | bl i =>
      unfold blsD at e
      obtain ⟨js, e1, rfl⟩ := Option.map_eq_some_iff.mp e
      unfold Rep at rd
      rw [rd, Reps.bls e1 rr]
      rfl
    | _ => unfold blsD at e; cases e
theorem Reps.of_strs : ∀ ys : List Str, Reps T io F (ys.map D.str) (ys.map V.str)
  | [] => Reps.nil
  | y :: ys => Reps.cons (by unfold Rep; rfl) (Reps.of_strs ys)
end
/-! ### what a frozen list or tuple is on the machine -/
theorem line_of {n : Nat} (h : fitB n = true) : n ≤ sizeLine := by
  have := of_decide_eq_true h
  rw [sizeLine_eq]
  exact this
section
variable {X : Cx} {T : Tab} {pins : List (Addr × Obj)} {s : Shared} {σ : L2.St} {io : List Addr} {h : LH} {H : Hp}
theorem len_lst (I : Inv X pins σ H s) {a : Addr} {xs : List V} (e : H a = some (.lst xs)) : xs.length ≤ sizeLine := (I.list (SqL.of e)).choose_spec.2.2
theorem up_same {io : List Addr} {h : LH} {H : Hp} {q : Addr} (o : HO) (n : H q = none) : L2.Same (fz io h H) (upd (fz io h H) q o) := fun c u e => by
  rw [upd_ne (ne_of_none (fz_some e) n)]
  exact e
/-- a new list, tuple is the value -/
theorem Post.newL {W : WX} {Q : V → Hp → Prop} {l : List D} {xs : List V} {q : Addr} (p : Post T io h H σ W (Rep T) Q (ret (.lst l) h)) (S : Sim T io h H) (n : H q = none) (r : Reps T io (fz io h H) l xs) : Q (.ref q) (upd H q (.lst xs)) := by
  refine Post.alloc p S n ?_
  unfold Rep
  exact ⟨q, _, rfl, upd_same, Reps.mono (Pre.rfl' _) (up_same _ n) _ _ r⟩
theorem Post.newT {W : WX} {Q : V → Hp → Prop} {l : List D} {xs : List V} {q : Addr} (p : Post T io h H σ W (Rep T) Q (ret (.tup l) h)) (S : Sim T io h H) (n : H q = none) (r : Reps T io (fz io h H) l xs) : Q (.ref q) (upd H q (.tup xs)) := by
  refine Post.alloc p S n ?_
  unfold Rep
  exact ⟨q, _, rfl, SqT.of upd_same, Reps.mono (Pre.rfl' _) (up_same _ n) _ _ r⟩
/-! ### arithmetic -/
theorem or_add (hT : T.K = X.K) : OpR X (binaryOp .Add) (rD T (binD .add)) := by
  intro pins s σ H x y v u Q I rx ry q
  obtain ⟨io, h, dx, dy, S, r1, r2, p⟩ := q
  cases dx <;> cases dy <;> try exact False.elim p
  case int.int i j =>
    unfold Rep at r1 r2
    exact op_add pins s σ H x y v u Q I rx ry ⟨_, _, r1, r2, Post.here p S (by unfold Rep; rfl)⟩
  case str.str i j =>
    unfold Rep at r1 r2
    obtain ⟨g, p⟩ := Post.guard p
    exact op_add_str pins s σ H x y v u Q I rx ry ⟨_, _, r1, r2, line_of g, Post.here p S (by unfold Rep; rfl)⟩
  case lst.lst i j =>
    unfold Rep at r1 r2
    obtain ⟨a, xs, rfl, e1, z1⟩ := r1
    obtain ⟨b, ys, rfl, e2, z2⟩ := r2
    obtain ⟨g, p⟩ := Post.guard p
    refine op_cat pins s σ H _ _ v u Q I rx ry ⟨a, b, xs, ys, rfl, rfl, fz_some e1, fz_some e2, ?_, fun q n => Post.newL p S n (z1.append z2)⟩
    rw [← z1.length, ← z2.length]
    exact line_of g
  case tup.tup i j =>
    unfold Rep at r1 r2
    obtain ⟨a, xs, rfl, e1, z1⟩ := r1
    obtain ⟨b, ys, rfl, e2, z2⟩ := r2
    obtain ⟨g, p⟩ := Post.guard p
    have hz := z1.append z2
    refine op_catA pins s σ H _ _ v u Q I rx ry ⟨a, b, xs, ys, rfl, rfl, Same.seqT fz_le (hT ▸ e1), Same.seqT fz_le (hT ▸ e2), ?_, fun e => ?_, fun e1' e => ?_, fun _ _ q n => Post.newT p S n hz⟩
    · rw [← z1.length, ← z2.length]
      exact line_of g
    · subst e
      refine Post.here p S ?_
      unfold Rep
      exact ⟨b, _, rfl, e2, hz⟩
    · subst e
      rw [List.append_nil] at hz
      refine Post.here p S ?_
      unfold Rep
      exact ⟨a, _, rfl, e1, hz⟩
theorem or_sub : OpR X (binaryOp .Sub) (rD T (binD .sub)) := by
  intro pins s σ H x y v u Q I rx ry q
  obtain ⟨io, h, dx, dy, S, r1, r2, p⟩ := q
  cases dx <;> cases dy <;> try exact False.elim p
  unfold Rep at r1 r2
  exact op_sub pins s σ H x y v u Q I rx ry ⟨_, _, r1, r2, Post.here p S (by unfold Rep; rfl)⟩
theorem and3 {a b c : Bool} (h : (a || b || c) = true) : a = true ∨ b = true ∨ c = true := by
  cases a <;> cases b <;> cases c <;> simp_all
theorem or_mul : OpR X (binaryOp .Mult) (rD T (binD .mul)) := by
  intro pins s σ H x y v u Q I rx ry q
  obtain ⟨io, h, dx, dy, S, r1, r2, p⟩ := q
  cases dx <;> cases dy <;> try exact False.elim p
  case int.int i j =>
    unfold Rep at r1 r2
    obtain ⟨g, p⟩ := Post.guard p
    have q := Post.here (b := V.int (i * j)) p S (by unfold Rep; rfl)
    rcases and3 g with g | g | g
    · obtain ⟨g1, g2⟩ := Bool.and_eq_true_iff.mp g
      exact op_mul pins s σ H x y v u Q I rx ry ⟨_, _, r1, r2, .inl ⟨of_decide_eq_true g1, of_decide_eq_true g2⟩, q⟩
    · obtain ⟨g1, g2⟩ := Bool.and_eq_true_iff.mp g
      exact op_mul pins s σ H x y v u Q I rx ry ⟨_, _, r1, r2, .inr ⟨of_decide_eq_true g1, of_decide_eq_true g2⟩, q⟩
    · exact op_mulW pins s σ H x y v u Q I rx ry ⟨_, _, r1, r2, show i.natAbs.log2 + j.natAbs.log2 < 1000000 from of_decide_eq_true g, q⟩
  case lst.int i j =>
    unfold Rep at r1 r2
    obtain ⟨a, xs, rfl, e1, z1⟩ := r1
    obtain ⟨g, p⟩ := Post.guard p
    obtain ⟨g1, g3⟩ := Bool.and_eq_true_iff.mp g
    obtain ⟨g1, g2⟩ := Bool.and_eq_true_iff.mp g1
    refine op_rep pins s σ H _ y v u Q I rx ry ⟨a, j, xs, rfl, r2, fz_some e1, of_decide_eq_true g1, of_decide_eq_true g2, ?_, fun q n => Post.newL p S n (z1.rep j.toNat)⟩
    rw [← z1.length]
    exact line_of g3
theorem or_fdiv : OpR X (binaryOp .FloorDiv) (rD T (binD .fdiv)) := by
  intro pins s σ H x y v u Q I rx ry q
  obtain ⟨io, h, dx, dy, S, r1, r2, p⟩ := q
  cases dx <;> cases dy <;> try exact False.elim p
  unfold Rep at r1 r2
  obtain ⟨g, p⟩ := Post.guard p
  obtain ⟨g1, g2⟩ := Bool.and_eq_true_iff.mp g
  exact op_fdivW pins s σ H x y v u Q I rx ry ⟨_, _, r1, r2, ⟨of_decide_eq_true g1, of_decide_eq_true g2⟩, Post.here p S (by unfold Rep; rfl)⟩
theorem or_mod : OpR X (binaryOp .Mod) (rD T (binD .mod)) := by
  intro pins s σ H x y v u Q I rx ry q
  obtain ⟨io, h, dx, dy, S, r1, r2, p⟩ := q
  cases dx <;> cases dy <;> try exact False.elim p
  unfold Rep at r1 r2
  obtain ⟨g, p⟩ := Post.guard p
  exact op_mod pins s σ H x y v u Q I rx ry ⟨_, _, r1, r2, of_decide_eq_true g, Post.here p S (by unfold Rep; rfl)⟩
theorem or_pow : OpR X (binaryOp .Pow) (rD T (binD .pow)) := by
  intro pins s σ H x y v u Q I rx ry q
  obtain ⟨io, h, dx, dy, S, r1, r2, p⟩ := q
  cases dx <;> cases dy <;> try exact False.elim p
  unfold Rep at r1 r2
  obtain ⟨g, p⟩ := Post.guard p
  obtain ⟨g1, g3⟩ := Bool.and_eq_true_iff.mp g
  obtain ⟨g1, g2⟩ := Bool.and_eq_true_iff.mp g1
  exact op_pow pins s σ H x y v u Q I rx ry ⟨_, _, r1, r2, ⟨of_decide_eq_true g1, of_decide_eq_true g2, of_decide_eq_true g3⟩, Post.here p S (by unfold Rep; rfl)⟩
def opOf : BOp → Operator
  | .add => .Add
  | .sub => .Sub
  | .mul => .Mult
  | .fdiv => .FloorDiv
  | .mod => .Mod
  | .pow => .Pow
theorem or_bin (hT : T.K = X.K) : ∀ o : BOp, OpR X (binaryOp (opOf o)) (rD T (binD o))
  | .add => or_add hT
  | .sub => or_sub
  | .mul => or_mul
  | .fdiv => or_fdiv
  | .mod => or_mod
  | .pow => or_pow
theorem calm_bin (o : BOp) (x y : D) : Calm (binD o x y) := by
  cases o <;> cases x <;> cases y <;> first | exact Calm.stk | exact Calm.ret _ | exact Calm.bnd (Calm.guard _) fun _ => Calm.ret _
/-! ### comparisons -/
def rC (T : Tab) (f : D → D → Option Bool) : R2 := fun x y H Q => ∃ io h dx dy b, Sim T io h H ∧ Rep T io (fz io h H) dx x ∧ Rep T io (fz io h H) dy y ∧ f dx dy = some b ∧ Q (.bl b) H
theorem eqP_some {a b : D} {k : Bool} (e : eqP a b = some k) : ∃ x y, a.toP = some x ∧ b.toP = some y ∧ SeqAt.shaped x = true ∧ SeqAt.shaped y = true ∧ k = PyData.eqv x y := by
  unfold eqP at e
  split at e
  · rename_i x y e1 e2
    split at e
    · rename_i g
      obtain ⟨g1, g2⟩ := Bool.and_eq_true_iff.mp g
      exact ⟨x, y, e1, e2, g1, g2, (Option.some.inj e).symm⟩
    · cases e
  · cases e
theorem or_eq (hT : T.K = X.K) (hu : X.A.units + 64 < cLine) : OpR X (compareOp .Eq) (rC T eqP) := by
  intro pins s σ H x y v u Q I rx ry q
  obtain ⟨io, h, dx, dy, b, S, r1, r2, e, q⟩ := q
  obtain ⟨p1, p2, e1, e2, g1, g2, rfl⟩ := eqP_some e
  refine op_eqD hu pins s σ H x y v u Q I rx ry ⟨p1, p2, hT ▸ Rep.dp fz_le dx p1 x e1 r1, hT ▸ Rep.dp fz_le dy p2 y e2 r2, g1, g2, q⟩
theorem or_ne (hT : T.K = X.K) (hu : X.A.units + 64 < cLine) : OpR X (compareOp .NotEq) (rC T fun a b => negO true (eqP a b)) := by
  intro pins s σ H x y v u Q I rx ry q
  obtain ⟨io, h, dx, dy, b, S, r1, r2, e, q⟩ := q
  obtain ⟨k, e, e3⟩ := Option.map_eq_some_iff.mp e
  obtain ⟨p1, p2, e1, e2, g1, g2, rfl⟩ := eqP_some e
  rw [← e3] at q
  exact op_neD hu pins s σ H x y v u Q I rx ry ⟨p1, p2, hT ▸ Rep.dp fz_le dx p1 x e1 r1, hT ▸ Rep.dp fz_le dy p2 y e2 r2, g1, g2, q⟩
theorem inP_some {a : D} {l : List D} {k : Bool} (e : inP a l = some k) : ∃ x ys, a.toP = some x ∧ D.toPs l = some ys ∧ SeqAt.shaped x = true ∧ SeqAt.shaped (.list ys) = true ∧ k = ys.any fun y => PyData.eqv y x := by
  unfold inP at e
  split at e
  · rename_i x y e1 e2
    split at e
    · rename_i g
      obtain ⟨g1, g2⟩ := Bool.and_eq_true_iff.mp g
      exact ⟨x, y, e1, e2, g1, g2, (Option.some.inj e).symm⟩
    · cases e
  · cases e
/-- flat data as values -/
theorem flat_V {io : List Addr} {F : Hp} {d : D} {v : V} (f : d.flat = true) (r : Rep T io F d v) : flatV v = true := by
  cases d <;> first | (unfold Rep at r; rw [r]; rfl) | cases f
theorem flat_eqv {io : List Addr} {F : Hp} {d e : D} {x y : V} {p q : PyData} (f : d.flat = true) (g : e.flat = true) (r : Rep T io F d x) (z : Rep T io F e y) (hp : d.toP = some p) (hq : e.toP = some q) : eqV x y = PyData.eqv p q := by
  cases d <;> (first | cases f | skip) <;> cases e <;> (first | cases g | skip) <;> (unfold D.toP at hp hq; cases hp; cases hq; unfold Rep at r z; rw [r, z]; rfl)
theorem flat_any {io : List Addr} {F : Hp} {a : D} {x : V} {p : PyData} (f : a.flat = true) (r : Rep T io F a x) (hp : a.toP = some p) : ∀ {l : List D} {xs : List V} {ps : List PyData}, l.all D.flat = true → Reps T io F l xs → D.toPs l = some ps →
    xs.all flatV = true ∧ (xs.any fun y => eqV y x) = ps.any fun y => PyData.eqv y p
  | [], xs, ps, _, rr, e => by
    unfold D.toPs at e
    cases e
    unfold Reps at rr
    subst rr
    exact ⟨rfl, rfl⟩
  | d :: l, xs, ps, g, rr, e => by
    unfold Reps at rr
    obtain ⟨y, ys, rfl, rd, rs⟩ := rr
    unfold D.toPs at e
    rw [List.all_cons, Bool.and_eq_true] at g
    split at e
    · rename_i q qs e1 e2
      cases e
      obtain ⟨i1, i2⟩ := flat_any f r hp g.2 rs e2
      refine ⟨?_, ?_⟩
      · rw [List.all_cons, flat_V g.1 rd, i1]
        rfl
      · rw [List.any_cons, List.any_cons, i2, flat_eqv g.1 f rd r e1 hp]
    · cases e
theorem str_one {x : Str} {c : Nat} (e : x.cps.toList = [c]) : x = ⟨#[c]⟩ := by
  obtain ⟨a⟩ := x
  have : a = #[c] := by
    apply Array.ext'
    simpa using e
  rw [this]
theorem signIn_some {a b : Str} {k : Bool} (e : signIn a b = some k) : ∃ c, a = ⟨#[c]⟩ ∧ k = decide (c ∈ b.cps.toList) := by
  unfold signIn at e
  split at e
  · rename_i c q
    exact ⟨c, str_one q, (Option.some.inj e).symm⟩
  · cases e
theorem or_in (hT : T.K = X.K) (hu : X.A.units + 65 < cLine) : OpR X (compareOp .In) (rC T (cmpD .isin)) := by
  intro pins s σ H x y v u Q I rx ry q
  obtain ⟨io, h, dx, dy, b, S, r1, r2, e, q⟩ := q
  have hl : ∀ l, dy = .lst l → wpAny (model X.prog X.w) X.A (compareOp .In v u) (EP X pins σ Q) X.xe s := fun l el => by
    subst el
    have e' : inP dx l = some b := by cases dx <;> exact e
    obtain ⟨p1, p2, e1, e2, g1, g2, rfl⟩ := inP_some e'
    exact op_inD hu pins s σ H x y v u Q I rx ry ⟨p1, p2, hT ▸ Rep.dp fz_le dx p1 x e1 r1, hT ▸ Rep.dp fz_le (.lst l) (.list p2) y (by unfold D.toP; rw [e2]; rfl) r2, g1, g2, q⟩
  have ht : ∀ l, dy = .tup l → wpAny (model X.prog X.w) X.A (compareOp .In v u) (EP X pins σ Q) X.xe s := fun l el => by
    subst el
    have e' : (if dx.flat && l.all D.flat then inP dx l else none) = some b := by cases dx <;> exact e
    split at e'
    · rename_i g
      obtain ⟨f1, f2⟩ := Bool.and_eq_true_iff.mp g
      obtain ⟨p1, p2, e1, e2, g1, g2, rfl⟩ := inP_some e'
      unfold Rep at r2
      obtain ⟨a, xs, rfl, e3, z⟩ := r2
      obtain ⟨a1, a2⟩ := flat_any f1 r1 e1 f2 z e2
      refine op_in_seq pins s σ H x _ v u Q I rx ry ⟨a, xs, rfl, .inr (Same.seqT fz_le (hT ▸ e3)), flat_V f1 r1, a1, ?_⟩
      show Q (.bl (xs.any fun y => eqV y x)) H
      rw [a2]
      exact q
    · cases e'
  cases dy <;> (first | (cases dx <;> cases e; done) | exact hl _ rfl | exact ht _ rfl | skip)
  case str z =>
    cases dx <;> (first | (cases e; done) | skip)
    obtain ⟨c, rfl, rfl⟩ := signIn_some e
    unfold Rep at r1 r2
    exact op_in_sign pins s σ H x y v u Q I rx ry ⟨c, z, r1, r2, q⟩
theorem or_nin (hT : T.K = X.K) (hu : X.A.units + 65 < cLine) : OpR X (compareOp .NotIn) (rC T (cmpD .notin)) := by
  intro pins s σ H x y v u Q I rx ry q
  obtain ⟨io, h, dx, dy, b, S, r1, r2, e, q⟩ := q
  have hl : ∀ l, dy = .lst l → wpAny (model X.prog X.w) X.A (compareOp .NotIn v u) (EP X pins σ Q) X.xe s := fun l el => by
    subst el
    have e' : negO true (inP dx l) = some b := by cases dx <;> exact e
    obtain ⟨k, e', e3⟩ := Option.map_eq_some_iff.mp e'
    obtain ⟨p1, p2, e1, e2, g1, g2, rfl⟩ := inP_some e'
    rw [← e3] at q
    exact op_notInD hu pins s σ H x y v u Q I rx ry ⟨p1, p2, hT ▸ Rep.dp fz_le dx p1 x e1 r1, hT ▸ Rep.dp fz_le (.lst l) (.list p2) y (by unfold D.toP; rw [e2]; rfl) r2, g1, g2, q⟩
  have ht : ∀ l, dy = .tup l → wpAny (model X.prog X.w) X.A (compareOp .NotIn v u) (EP X pins σ Q) X.xe s := fun l el => by
    subst el
    have e' : (if dx.flat && l.all D.flat then negO true (inP dx l) else none) = some b := by cases dx <;> exact e
    split at e'
    · rename_i g
      obtain ⟨f1, f2⟩ := Bool.and_eq_true_iff.mp g
      obtain ⟨k, e', e3⟩ := Option.map_eq_some_iff.mp e'
      obtain ⟨p1, p2, e1, e2, g1, g2, rfl⟩ := inP_some e'
      rw [← e3] at q
      unfold Rep at r2
      obtain ⟨a, xs, rfl, e3, z⟩ := r2
      obtain ⟨a1, a2⟩ := flat_any f1 r1 e1 f2 z e2
      refine op_notIn_seq pins s σ H x _ v u Q I rx ry ⟨a, xs, rfl, .inr (Same.seqT fz_le (hT ▸ e3)), flat_V f1 r1, a1, ?_⟩
      show Q (.bl (!xs.any fun y => eqV y x)) H
      rw [a2]
      exact q
    · cases e'
  cases dy <;> (first | (cases dx <;> cases e; done) | exact hl _ rfl | exact ht _ rfl | skip)
  case str z =>
    cases dx <;> (first | (cases e; done) | skip)
    obtain ⟨k, e, e3⟩ := Option.map_eq_some_iff.mp e
    obtain ⟨c, rfl, rfl⟩ := signIn_some e
    rw [← e3] at q
    unfold Rep at r1 r2
    exact op_notIn_sign pins s σ H x y v u Q I rx ry ⟨c, z, r1, r2, q⟩
theorem isNon_V {io : List Addr} {F : Hp} {d : D} {v : V} (r : Rep T io F d v) : decide (v = .non) = d.isNon := by
  cases d with
  | non => unfold Rep at r; rw [r]; rfl
  | bl b => unfold Rep at r; rw [r]; rfl
  | int b => unfold Rep at r; rw [r]; rfl
  | str b => unfold Rep at r; rw [r]; rfl
  | cls b => unfold Rep at r; rw [r]; rfl
  | tup l => unfold Rep at r; obtain ⟨a, _, rfl, _⟩ := r; rfl
  | lst l => unfold Rep at r; obtain ⟨a, _, rfl, _⟩ := r; rfl
  | rol l => unfold Rep at r; obtain ⟨a, _, rfl, _⟩ := r; rfl
  | dic l k => unfold Rep at r; obtain ⟨a, _, rfl, _⟩ := r; rfl
  | obj c fs => unfold Rep at r; obtain ⟨a, _, _, rfl, _⟩ := r; rfl
  | ref n => unfold Rep at r; obtain ⟨a, rfl, _⟩ := r; rfl
theorem or_isN : OpR X (compareOp .Is) (rC T (cmpD .isN)) := by
  intro pins s σ H x y v u Q I rx ry q
  obtain ⟨io, h, dx, dy, b, S, r1, r2, e, q⟩ := q
  cases dy <;> (first | (cases dx <;> cases e; done) | skip)
  have e' : some dx.isNon = some b := by cases dx <;> exact e
  unfold Rep at r2
  refine op_isN pins s σ H x y v u Q I rx ry ⟨r2, ?_⟩
  rw [isNon_V r1, Option.some.inj e']
  exact q
theorem or_notN : OpR X (compareOp .IsNot) (rC T (cmpD .notN)) := by
  intro pins s σ H x y v u Q I rx ry q
  obtain ⟨io, h, dx, dy, b, S, r1, r2, e, q⟩ := q
  cases dy <;> (first | (cases dx <;> cases e; done) | skip)
  have e' : some (!dx.isNon) = some b := by cases dx <;> exact e
  unfold Rep at r2
  refine op_notN pins s σ H x y v u Q I rx ry ⟨r2, ?_⟩
  rw [isNon_V r1, Option.some.inj e']
  exact q
theorem or_lt : OpR X (compareOp .Lt) (rC T (cmpD .lt)) := by
  intro pins s σ H x y v u Q I rx ry q
  obtain ⟨io, h, dx, dy, b, S, r1, r2, e, q⟩ := q
  cases dy <;> cases dx <;> (first | (cases e; done) | skip)
  unfold Rep at r1 r2
  cases e
  exact op_lt pins s σ H x y v u Q I rx ry ⟨_, _, r1, r2, q⟩
theorem or_le : OpR X (compareOp .LtE) (rC T (cmpD .le)) := by
  intro pins s σ H x y v u Q I rx ry q
  obtain ⟨io, h, dx, dy, b, S, r1, r2, e, q⟩ := q
  cases dy <;> cases dx <;> (first | (cases e; done) | skip)
  unfold Rep at r1 r2
  cases e
  exact op_le pins s σ H x y v u Q I rx ry ⟨_, _, r1, r2, q⟩
theorem or_gt : OpR X (compareOp .Gt) (rC T (cmpD .gt)) := by
  intro pins s σ H x y v u Q I rx ry q
  obtain ⟨io, h, dx, dy, b, S, r1, r2, e, q⟩ := q
  cases dy <;> cases dx <;> (first | (cases e; done) | skip)
  unfold Rep at r1 r2
  cases e
  exact op_gt pins s σ H x y v u Q I rx ry ⟨_, _, r1, r2, q⟩
theorem or_ge : OpR X (compareOp .GtE) (rC T (cmpD .ge)) := by
  intro pins s σ H x y v u Q I rx ry q
  obtain ⟨io, h, dx, dy, b, S, r1, r2, e, q⟩ := q
  cases dy <;> cases dx <;> (first | (cases e; done) | skip)
  unfold Rep at r1 r2
  cases e
  exact op_ge pins s σ H x y v u Q I rx ry ⟨_, _, r1, r2, q⟩
def copOf : COp → CmpOp
  | .eq => .Eq
  | .ne => .NotEq
  | .lt => .Lt
  | .le => .LtE
  | .gt => .Gt
  | .ge => .GtE
  | .isN => .Is
  | .notN => .IsNot
  | .isin => .In
  | .notin => .NotIn
theorem or_cmp (hT : T.K = X.K) (hu : X.A.units + 65 < cLine) : ∀ o : COp, OpR X (compareOp (copOf o)) (rC T (cmpD o))
  | .eq => fun pins s σ H x y v u Q I rx ry ⟨io, h, dx, dy, b, S, r1, r2, e, q⟩ => or_eq hT (by omega) pins s σ H x y v u Q I rx ry ⟨io, h, dx, dy, b, S, r1, r2, by cases dx <;> cases dy <;> exact e, q⟩
  | .ne => fun pins s σ H x y v u Q I rx ry ⟨io, h, dx, dy, b, S, r1, r2, e, q⟩ => or_ne hT (by omega) pins s σ H x y v u Q I rx ry ⟨io, h, dx, dy, b, S, r1, r2, by cases dx <;> cases dy <;> exact e, q⟩
  | .lt => or_lt
  | .le => or_le
  | .gt => or_gt
  | .ge => or_ge
  | .isN => or_isN
  | .notN => or_notN
  | .isin => or_in hT hu
  | .notin => or_nin hT hu
end
end SX
end
section
set_option Elab.async false
set_option linter.all false
set_option maxRecDepth 100000
set_option maxHeartbeats 1000000
/-! SX5: built-in calls, methods, subscripts, by data. -/
namespace SX
open PySem PySem.Spec PyProof.Rows L2
section
variable {X : Cx} {T : Tab}
/-- a call by data -/
def rL (T : Tab) (g : List D → EM D) : List V → Hp → VK → Prop := fun xs H Q => ∃ io h ds, Sim T io h H ∧ Reps T io (fz io h H) ds xs ∧ Post T io h H [] NoW (Rep T) Q (g ds h)
theorem Reps.one {io : List Addr} {F : Hp} {d : D} {xs : List V} (r : Reps T io F [d] xs) : ∃ x, xs = [x] ∧ Rep T io F d x := by
  unfold Reps at r
  obtain ⟨x, r, rfl, q, z⟩ := r
  unfold Reps at z
  subst z
  exact ⟨x, rfl, q⟩
theorem Reps.two {io : List Addr} {F : Hp} {d e : D} {xs : List V} (r : Reps T io F [d, e] xs) : ∃ x y, xs = [x, y] ∧ Rep T io F d x ∧ Rep T io F e y := by
  unfold Reps at r
  obtain ⟨x, r, rfl, q, z⟩ := r
  obtain ⟨y, rfl, w⟩ := Reps.one z
  exact ⟨x, y, rfl, q, w⟩
theorem Reps.three {io : List Addr} {F : Hp} {d e f : D} {xs : List V} (r : Reps T io F [d, e, f] xs) : ∃ x y z, xs = [x, y, z] ∧ Rep T io F d x ∧ Rep T io F e y ∧ Rep T io F f z := by
  unfold Reps at r
  obtain ⟨x, r, rfl, q, z⟩ := r
  obtain ⟨y, z', rfl, w⟩ := Reps.two z
  exact ⟨x, y, z', rfl, q, w⟩
theorem int_rep {io : List Addr} {F : Hp} {i : Int} : Rep T io F (.int i) (.int i) := by unfold Rep; rfl
theorem bl_rep {io : List Addr} {F : Hp} {i : Bool} : Rep T io F (.bl i) (.bl i) := by unfold Rep; rfl
theorem str_rep {io : List Addr} {F : Hp} {i : Str} : Rep T io F (.str i) (.str i) := by unfold Rep; rfl
theorem non_rep {io : List Addr} {F : Hp} : Rep T io F .non .non := by unfold Rep; rfl
theorem cell_lst {io : List Addr} {h : LH} {H : Hp} {n : Nat} {l : List D} (S : Sim T io h H) {v : V} (r : Rep T io (fz io h H) (.ref n) v) (e : h[n]? = some (some (.lst l))) : ∃ a xs, v = .ref a ∧ io[n]? = some a ∧ H a = some (.lst xs) ∧ Reps T io (fz io h H) l xs := by
  unfold Rep at r
  obtain ⟨a, rfl, ea⟩ := r
  obtain ⟨xs, q, z⟩ := S.cell n a _ ea e
  exact ⟨a, xs, rfl, ea, q, z⟩
theorem cell_dic {io : List Addr} {h : LH} {H : Hp} {n : Nat} {l : List (Key × D)} (S : Sim T io h H) {v : V} (r : Rep T io (fz io h H) (.ref n) v) (e : h[n]? = some (some (.dic l))) :
    ∃ a xs, v = .ref a ∧ io[n]? = some a ∧ H a = some (.dK xs) ∧ l.map (·.1) = xs.map (·.1) ∧ Reps T io (fz io h H) (l.map (·.2)) (xs.map (·.2)) := by
  unfold Rep at r
  obtain ⟨a, rfl, ea⟩ := r
  obtain ⟨xs, q, w, z⟩ := S.cell n a _ ea e
  exact ⟨a, xs, rfl, ea, q, w, z⟩
/-! ### len, abs, max .. -/
/-- one, two, three arguments -/
theorem cl_of {f : Value} {b : Blt} (h1 : ∀ pins s σ H x u Q io h d, Inv X pins σ H s → RelV x u → Sim T io h H → Rep T io (fz io h H) d x → Post T io h H [] NoW (Rep T) Q (blt1 b d h) → wpAny (model X.prog X.w) X.A (call f [u]) (EP X pins σ Q) X.xe s)
    (h2 : ∀ pins s σ H x y us Q io h d e, Inv X pins σ H s → Vals [x, y] us → Sim T io h H → Rep T io (fz io h H) d x → Rep T io (fz io h H) e y → Post T io h H [] NoW (Rep T) Q (blt2 b d e h) → wpAny (model X.prog X.w) X.A (call f us) (EP X pins σ Q) X.xe s)
    (h3 : ∀ pins s σ H x y z us Q io h d e g, Inv X pins σ H s → Vals [x, y, z] us → Sim T io h H → Rep T io (fz io h H) d x → Rep T io (fz io h H) e y → Rep T io (fz io h H) g z → Post T io h H [] NoW (Rep T) Q (blt3 b d e g h) → wpAny (model X.prog X.w) X.A (call f us) (EP X pins σ Q) X.xe s) : CallR X f (rL T (bltD b)) := by
  intro pins s σ H xs us Q I r q
  obtain ⟨io, h, ds, S, rr, p⟩ := q
  match ds, rr, p with
  | [], _, p => exact False.elim p
  | [d], rr, p =>
    obtain ⟨x, rfl, rd⟩ := rr.one
    obtain ⟨u, rfl, ru⟩ := vals1 r
    exact h1 pins s σ H x u Q io h d I ru S rd p
  | [d, e], rr, p =>
    obtain ⟨x, y, rfl, rd, re⟩ := rr.two
    exact h2 pins s σ H x y us Q io h d e I r S rd re p
  | [d, e, g], rr, p =>
    obtain ⟨x, y, z, rfl, rd, re, rg⟩ := rr.three
    exact h3 pins s σ H x y z us Q io h d e g I r S rd re rg p
  | _ :: _ :: _ :: _ :: _, _, p => exact False.elim p
theorem v1 {x : V} {u : Value} (r : RelV x u) : Vals [x] [u] := .cons r .nil
theorem cl_len (hT : T.K = X.K) : CallR X (.builtin "len") (rL T (bltD .len)) := by
  refine cl_of (fun pins s σ H x u Q io h d I r S rd p => ?_) (fun pins s σ H x y us Q io h d e I r S rd re p => by cases d <;> cases e <;> exact False.elim p) (fun pins s σ H x y z us Q io h d e g I r S rd re rg p => by cases d <;> cases e <;> cases g <;> exact False.elim p)
  have p : Post T io h H [] NoW (Rep T) Q (lenD d h) := p
  cases d <;> try exact False.elim p
  case str z =>
    obtain ⟨g, p⟩ := Post.guard p
    unfold Rep at rd
    exact call_len_str pins s σ H _ _ Q I (v1 r) ⟨_, by rw [rd], line_of g, Post.here p S int_rep⟩
  case lst l =>
    unfold Rep at rd
    obtain ⟨a, xs, rfl, e, z⟩ := rd
    refine call_len_seq pins s σ H _ _ Q I (v1 r) ⟨a, xs, rfl, .inl (SqL.of (fz_some e)), ?_⟩
    rw [← z.length]
    exact Post.here p S int_rep
  case tup l =>
    unfold Rep at rd
    obtain ⟨a, xs, rfl, e, z⟩ := rd
    refine call_len_seq pins s σ H _ _ Q I (v1 r) ⟨a, xs, rfl, .inr (Same.seqT fz_le (hT ▸ e)), ?_⟩
    rw [← z.length]
    exact Post.here p S int_rep
  case rol l =>
    unfold Rep at rd
    obtain ⟨a, xs, rfl, e, z⟩ := rd
    refine call_len_seq pins s σ H _ _ Q I (v1 r) ⟨a, xs, rfl, .inl (L2.Same.seq fz_le (hT ▸ e)), ?_⟩
    rw [← z.length]
    exact Post.here p S int_rep
  case ref n =>
    obtain ⟨c, e, p⟩ := Post.getC p
    cases c <;> try exact False.elim p
    obtain ⟨a, xs, rfl, ea, q, z⟩ := cell_lst S rd e
    refine call_len_seq pins s σ H _ _ Q I (v1 r) ⟨a, xs, rfl, .inl (SqL.of q), ?_⟩
    rw [← z.length]
    exact Post.here p S int_rep
theorem maxL_spec : ∀ (l : List Int) (m : Int), maxL m l ∈ m :: l ∧ ∀ y ∈ m :: l, y ≤ maxL m l
  | [], m => ⟨by simp [maxL], by simp [maxL]⟩
  | x :: l, m => by
    unfold maxL
    by_cases g : x > m
    · rw [if_pos g]
      obtain ⟨h1, h2⟩ := maxL_spec l x
      refine ⟨List.mem_cons_of_mem _ h1, fun y hy => ?_⟩
      rcases List.mem_cons.mp hy with rfl | hy
      · have := h2 x List.mem_cons_self
        omega
      · exact h2 y hy
    · rw [if_neg g]
      obtain ⟨h1, h2⟩ := maxL_spec l m
      refine ⟨?_, fun y hy => ?_⟩
      · rcases List.mem_cons.mp h1 with e | h1
        · rw [e]
          exact List.mem_cons_self
        · exact List.mem_cons_of_mem _ (List.mem_cons_of_mem _ h1)
      · rcases List.mem_cons.mp hy with rfl | hy
        · exact h2 y List.mem_cons_self
        · rcases List.mem_cons.mp hy with rfl | hy
          · have := h2 m List.mem_cons_self
            omega
          · exact h2 y (List.mem_cons_of_mem _ hy)
theorem minL_spec : ∀ (l : List Int) (m : Int), minL m l ∈ m :: l ∧ ∀ y ∈ m :: l, minL m l ≤ y
  | [], m => ⟨by simp [minL], by simp [minL]⟩
  | x :: l, m => by
    unfold minL
    by_cases g : x < m
    · rw [if_pos g]
      obtain ⟨h1, h2⟩ := minL_spec l x
      refine ⟨List.mem_cons_of_mem _ h1, fun y hy => ?_⟩
      rcases List.mem_cons.mp hy with rfl | hy
      · have := h2 x List.mem_cons_self
        omega
      · exact h2 y hy
    · rw [if_neg g]
      obtain ⟨h1, h2⟩ := minL_spec l m
      refine ⟨?_, fun y hy => ?_⟩
      · rcases List.mem_cons.mp h1 with e | h1
        · rw [e]
          exact List.mem_cons_self
        · exact List.mem_cons_of_mem _ (List.mem_cons_of_mem _ h1)
      · rcases List.mem_cons.mp hy with rfl | hy
        · exact h2 y List.mem_cons_self
        · rcases List.mem_cons.mp hy with rfl | hy
          · have := h2 m List.mem_cons_self
            omega
          · exact h2 y (List.mem_cons_of_mem _ hy)
theorem maxL_uni {l : List Int} {m k : Int} (h1 : k ∈ m :: l) (h2 : ∀ y ∈ m :: l, y ≤ k) : k = maxL m l := by
  obtain ⟨a, b⟩ := maxL_spec l m
  have := b k h1
  have := h2 _ a
  omega
theorem minL_uni {l : List Int} {m k : Int} (h1 : k ∈ m :: l) (h2 : ∀ y ∈ m :: l, k ≤ y) : k = minL m l := by
  obtain ⟨a, b⟩ := minL_spec l m
  have := b k h1
  have := h2 _ a
  omega
theorem p1 {b : Blt} {Q : V → Hp → Prop} {io : List Addr} {h : LH} {H : Hp} (hb : ∀ d e, blt2 b d e = stk) {d e : D} (p : Post T io h H [] NoW (Rep T) Q (blt2 b d e h)) : False := by
  rw [hb] at p
  exact p
theorem p3 {b : Blt} {Q : V → Hp → Prop} {io : List Addr} {h : LH} {H : Hp} (hb : ∀ d e g, blt3 b d e g = stk) {d e g : D} (p : Post T io h H [] NoW (Rep T) Q (blt3 b d e g h)) : False := by
  rw [hb] at p
  exact p
theorem s2 (b : Blt) (h1 : b ≠ .max) (h2 : b ≠ .min) (d e : D) : blt2 b d e = stk := by
  cases b <;> cases d <;> cases e <;> first | rfl | exact absurd rfl h1 | exact absurd rfl h2
theorem s3 (b : Blt) (h1 : b ≠ .max) (d e g : D) : blt3 b d e g = stk := by
  cases b <;> (first | rfl | exact absurd rfl h1)
theorem cl_one {f : Value} {b : Blt} (b1 : b ≠ .max := by decide) (b2 : b ≠ .min := by decide) (h1 : ∀ pins s σ H x u Q io h d, Inv X pins σ H s → RelV x u → Sim T io h H → Rep T io (fz io h H) d x → Post T io h H [] NoW (Rep T) Q (blt1 b d h) → wpAny (model X.prog X.w) X.A (call f [u]) (EP X pins σ Q) X.xe s) : CallR X f (rL T (bltD b)) :=
  cl_of h1 (fun pins s σ H x y us Q io h d e I r S rd re p => (p1 (s2 b b1 b2) p).elim) (fun pins s σ H x y z us Q io h d e g I r S rd re rg p => (p3 (s3 b b1) p).elim)
theorem cl_abs : CallR X (.builtin "abs") (rL T (bltD .abs)) := by
  refine cl_one (b := .abs) (fun h => nomatch h) (fun h => nomatch h) fun pins s σ H x u Q io h d I r S rd p => ?_
  cases d <;> try exact False.elim p
  unfold Rep at rd
  exact call_abs pins s σ H _ _ Q I (v1 r) ⟨_, by rw [rd], Post.here p S int_rep⟩
theorem cl_max (hc : X.calm = true) : CallR X (.builtin "max") (rL T (bltD .max)) := by
  refine cl_of (fun pins s σ H x u Q io h d I r S rd p => ?_) (fun pins s σ H x y us Q io h d e I r S rd re p => ?_) (fun pins s σ H x y z us Q io h d e g I r S rd re rg p => ?_)
  · cases d <;> try exact False.elim p
    rename_i l
    unfold Rep at rd
    obtain ⟨a, xs, rfl, e, z⟩ := rd
    have p : Post T io h H [] NoW (Rep T) Q (maxO (intsD l) h) := p
    cases ei : intsD l with
    | none => rw [ei] at p; exact False.elim p
    | some is =>
      rw [ei] at p
      cases is with
      | nil => exact False.elim p
      | cons i is =>
        have ex := Reps.ints ei z
        subst ex
        exact cr_max hc pins s σ H _ _ Q I (v1 r) ⟨a, i :: is, rfl, SqL.of (fz_some e), by simp, fun m h1 h2 => by rw [maxL_uni h1 h2]; exact Post.here p S int_rep⟩
  · cases d <;> cases e <;> try exact False.elim p
    unfold Rep at rd re
    exact call_max2 hc pins s σ H _ us Q I r ⟨_, _, by rw [rd, re], Post.here p S int_rep⟩
  · cases d <;> cases e <;> cases g <;> try exact False.elim p
    rename_i i j k
    unfold Rep at rd re rg
    refine call_max3Nu hc pins s σ H _ us Q I r ⟨x, y, z, .int (if k > (if j > i then j else i) then k else (if j > i then j else i)), rfl, ?_, Post.here p S int_rep⟩
    rw [rd, re, rg]
    by_cases g1 : j > i
    · rw [if_pos g1]
      show (some (if decide (i < j) = true then V.int j else V.int i)).bind _ = _
      rw [if_pos (decide_eq_true g1)]
      show some (if decide (j < k) = true then V.int k else V.int j) = _
      by_cases g2 : k > j
      · rw [if_pos g2, if_pos (decide_eq_true g2)]
      · rw [if_neg g2, if_neg (by simpa using g2)]
    · rw [if_neg g1]
      show (some (if decide (i < j) = true then V.int j else V.int i)).bind _ = _
      rw [if_neg (by simpa using g1)]
      show some (if decide (i < k) = true then V.int k else V.int i) = _
      by_cases g2 : k > i
      · rw [if_pos g2, if_pos (decide_eq_true g2)]
      · rw [if_neg g2, if_neg (by simpa using g2)]
theorem cl_min (hc : X.calm = true) : CallR X (.builtin "min") (rL T (bltD .min)) := by
  refine cl_of (fun pins s σ H x u Q io h d I r S rd p => ?_) (fun pins s σ H x y us Q io h d e I r S rd re p => ?_) (fun pins s σ H x y z us Q io h d e g I r S rd re rg p => (p3 (s3 .min (fun h => nomatch h)) p).elim)
  · cases d <;> try exact False.elim p
    rename_i l
    unfold Rep at rd
    obtain ⟨a, xs, rfl, e, z⟩ := rd
    have p : Post T io h H [] NoW (Rep T) Q (minO (intsD l) h) := p
    cases ei : intsD l with
    | none => rw [ei] at p; exact False.elim p
    | some is =>
      rw [ei] at p
      cases is with
      | nil => exact False.elim p
      | cons i is =>
        have ex := Reps.ints ei z
        subst ex
        exact cr_min hc pins s σ H _ _ Q I (v1 r) ⟨a, i :: is, rfl, SqL.of (fz_some e), by simp, fun m h1 h2 => by rw [minL_uni h1 h2]; exact Post.here p S int_rep⟩
  · cases d <;> cases e <;> try exact False.elim p
    unfold Rep at rd re
    exact call_min2 hc pins s σ H _ us Q I r ⟨_, _, by rw [rd, re], Post.here p S int_rep⟩
theorem cl_all (hc : X.calm = true) : CallR X (.builtin "all") (rL T (bltD .all)) := by
  refine cl_one (b := .all) (fun h => nomatch h) (fun h => nomatch h) fun pins s σ H x u Q io h d I r S rd p => ?_
  cases d <;> try exact False.elim p
  rename_i l
  unfold Rep at rd
  obtain ⟨a, xs, rfl, e, z⟩ := rd
  have p : Post T io h H [] NoW (Rep T) Q (allO (blsD l) h) := p
  cases ei : blsD l with
  | none => rw [ei] at p; exact False.elim p
  | some is =>
    rw [ei] at p
    have ex := Reps.bls ei z
    subst ex
    exact cr_all hc pins s σ H _ _ Q I (v1 r) ⟨a, is, rfl, SqL.of (fz_some e), Post.here p S bl_rep⟩
theorem cl_any (hc : X.calm = true) : CallR X (.builtin "any") (rL T (bltD .any)) := by
  refine cl_one (b := .any) (fun h => nomatch h) (fun h => nomatch h) fun pins s σ H x u Q io h d I r S rd p => ?_
  cases d <;> try exact False.elim p
  rename_i l
  unfold Rep at rd
  obtain ⟨a, xs, rfl, e, z⟩ := rd
  have p : Post T io h H [] NoW (Rep T) Q (anyO (blsD l) h) := p
  cases ei : blsD l with
  | none => rw [ei] at p; exact False.elim p
  | some is =>
    rw [ei] at p
    have ex := Reps.bls ei z
    subst ex
    exact cr_any hc pins s σ H _ _ Q I (v1 r) ⟨a, is, rfl, SqL.of (fz_some e), Post.here p S bl_rep⟩
theorem cl_int : CallR X (.type "int") (rL T (bltD .int)) := by
  refine cl_one (b := .int) (fun h => nomatch h) (fun h => nomatch h) fun pins s σ H x u Q io h d I r S rd p => ?_
  cases d <;> try exact False.elim p
  case bl b =>
    unfold Rep at rd
    exact call_int1 pins s σ H _ _ Q I (v1 r) (.inr ⟨b, by rw [rd], Post.here p S int_rep⟩)
  case int b =>
    unfold Rep at rd
    exact call_int1 pins s σ H _ _ Q I (v1 r) (.inl ⟨b, by rw [rd], Post.here p S int_rep⟩)
  case str b =>
    unfold Rep at rd
    have p : Post T io h H [] NoW (Rep T) Q (intO b.length (PySem.intText? b) h) := p
    cases ei : PySem.intText? b with
    | none => rw [ei] at p; exact False.elim p
    | some i =>
      rw [ei] at p
      obtain ⟨g, p⟩ := Post.guard p
      exact call_int_str pins s σ H _ _ Q I (v1 r) ⟨b, i, by rw [rd], ei, of_decide_eq_true g, Post.here p S int_rep⟩
theorem cl_str : CallR X (.type "str") (rL T (bltD .str)) := by
  refine cl_one (b := .str) (fun h => nomatch h) (fun h => nomatch h) fun pins s σ H x u Q io h d I r S rd p => ?_
  cases d <;> try exact False.elim p
  unfold Rep at rd
  obtain ⟨g, p⟩ := Post.guard p
  exact call_str_int pins s σ H _ _ Q I (v1 r) ⟨_, by rw [rd], of_decide_eq_true g, Post.here p S str_rep⟩
theorem cl_bool : CallR X (.type "bool") (rL T (bltD .bool)) := by
  refine cl_one (b := .bool) (fun h => nomatch h) (fun h => nomatch h) fun pins s σ H x u Q io h d I r S rd p => ?_
  cases d <;> try exact False.elim p
  case bl b =>
    unfold Rep at rd
    exact call_bool1 pins s σ H _ _ Q I (v1 r) (.inr ⟨b, by rw [rd], Post.here p S bl_rep⟩)
  case int b =>
    unfold Rep at rd
    exact call_bool1 pins s σ H _ _ Q I (v1 r) (.inl ⟨b, by rw [rd], Post.here p S bl_rep⟩)
theorem cl_list (hT : T.K = X.K) : CallR X (.type "list") (rL T (bltD .list)) := by
  refine cl_one (b := .list) (fun h => nomatch h) (fun h => nomatch h) fun pins s σ H x u Q io h d I r S rd p => ?_
  cases d <;> try exact False.elim p
  case lst l =>
    unfold Rep at rd
    obtain ⟨a, xs, rfl, e, z⟩ := rd
    exact call_list_of pins s σ H _ _ Q I (v1 r) ⟨a, xs, rfl, .inl (SqL.of (fz_some e)), fun q n => Post.newL p S n z⟩
  case tup l =>
    unfold Rep at rd
    obtain ⟨a, xs, rfl, e, z⟩ := rd
    exact call_list_of pins s σ H _ _ Q I (v1 r) ⟨a, xs, rfl, .inr (Same.seqT fz_le (hT ▸ e)), fun q n => Post.newL p S n z⟩
theorem cl_tuple (hT : T.K = X.K) : CallR X (.type "tuple") (rL T (bltD .tuple)) := by
  refine cl_one (b := .tuple) (fun h => nomatch h) (fun h => nomatch h) fun pins s σ H x u Q io h d I r S rd p => ?_
  cases d <;> try exact False.elim p
  case lst l =>
    unfold Rep at rd
    obtain ⟨a, xs, rfl, e, z⟩ := rd
    exact call_tuple_of pins s σ H _ _ Q I (v1 r) ⟨a, xs, rfl, .inl ⟨SqL.of (fz_some e), fun q n => Post.newT p S n z⟩⟩
  case tup l =>
    have rd0 := rd
    unfold Rep at rd
    obtain ⟨a, xs, rfl, e, z⟩ := rd
    exact call_tuple_of pins s σ H _ _ Q I (v1 r) ⟨a, xs, rfl, .inr ⟨Same.seqT fz_le (hT ▸ e), Post.here p S rd0⟩⟩
end
end SX
end
section
set_option Elab.async false
set_option linter.all false
set_option maxRecDepth 100000
set_option maxHeartbeats 1000000
/-! SX6: methods, subscripts, slices, stores, by data. -/
namespace SX
open PySem PySem.Spec PyProof.Rows L2
section
variable {X : Cx} {T : Tab}
/-! ### dicts -/
def RKV (T : Tab) (io : List Addr) (F : Hp) (l : List (Key × D)) (xs : List (Key × V)) : Prop := l.map (·.1) = xs.map (·.1) ∧ Reps T io F (l.map (·.2)) (xs.map (·.2))
theorem RKV.nil {io : List Addr} {F : Hp} : RKV T io F [] [] := ⟨rfl, Reps.nil⟩
theorem RKV.cons {io : List Addr} {F : Hp} {k : Key} {d : D} {v : V} {l : List (Key × D)} {xs : List (Key × V)} (h : Rep T io F d v) (r : RKV T io F l xs) : RKV T io F ((k, d) :: l) ((k, v) :: xs) :=
  ⟨by rw [List.map_cons, List.map_cons, r.1], Reps.cons h r.2⟩
theorem RKV.cases {io : List Addr} {F : Hp} {p : Key × D} {l : List (Key × D)} {xs : List (Key × V)} (r : RKV T io F (p :: l) xs) : ∃ v ys, xs = (p.1, v) :: ys ∧ Rep T io F p.2 v ∧ RKV T io F l ys := by
  obtain ⟨r1, r2⟩ := r
  cases xs with
  | nil => cases r1
  | cons q ys =>
    rw [List.map_cons, List.map_cons] at r1 r2
    injection r1 with e1 e2
    obtain ⟨z, zs, e3, h1, h2⟩ := (show ∃ x r, q.2 :: ys.map (·.2) = x :: r ∧ Rep T io F p.2 x ∧ Reps T io F (l.map (·.2)) r by unfold Reps at r2; exact r2)
    injection e3 with e4 e5
    subst e4
    subst e5
    exact ⟨q.2, ys, by rw [e1], h1, e2, h2⟩
theorem RKV.val {io : List Addr} {F : Hp} {k : Key} : ∀ {l : List (Key × D)} {xs : List (Key × V)} {d : D}, RKV T io F l xs → valD l k = some d → ∃ v, valV xs k = some v ∧ Rep T io F d v
  | [], _, d, _, e => by cases e
  | p :: l, xs, d, r, e => by
    obtain ⟨v, ys, rfl, h1, h2⟩ := RKV.cases r
    by_cases g : p.1 = k
    · have e' : some p.2 = some d := by
        rw [← e]
        simp [valD, List.find?_cons, g]
      cases e'
      exact ⟨v, valV_pos (p := (p.1, v)) g, h1⟩
    · have e' : valD l k = some d := by
        rw [← e]
        simp [valD, List.find?_cons, g]
      obtain ⟨w, q, z⟩ := RKV.val h2 e'
      exact ⟨w, (valV_neg (p := (p.1, v)) g).trans q, z⟩
theorem RKV.length {io : List Addr} {F : Hp} {l : List (Key × D)} {xs : List (Key × V)} (r : RKV T io F l xs) : l.length = xs.length := by
  have := congrArg List.length r.1
  simpa using this
theorem RKV.anyk {io : List Addr} {F : Hp} {l : List (Key × D)} {xs : List (Key × V)} (r : RKV T io F l xs) (k : Key) : (l.any fun kv => decide (kv.1 = k)) = xs.any fun kv => decide (kv.1 = k) := by
  have h : ∀ {α : Type} (l : List (Key × α)), (l.any fun kv => decide (kv.1 = k)) = (l.map (·.1)).any fun x => decide (x = k) := fun l => by
    rw [List.any_map]
    rfl
  rw [h, h, r.1]
theorem RKV.repl {io : List Addr} {F : Hp} {k : Key} {d : D} {v : V} (h : Rep T io F d v) : ∀ {l : List (Key × D)} {xs : List (Key × V)}, RKV T io F l xs → RKV T io F (l.map fun kv => if kv.1 = k then (kv.1, d) else kv) (xs.map fun kv => if kv.1 = k then (kv.1, v) else kv)
  | [], xs, r => by
    have : xs = [] := by
      have := r.length
      simpa using this.symm
    subst this
    exact RKV.nil
  | p :: l, xs, r => by
    obtain ⟨w, ys, rfl, h1, h2⟩ := RKV.cases r
    rw [List.map_cons, List.map_cons]
    by_cases g : p.1 = k
    · rw [if_pos g, if_pos g]
      exact RKV.cons h (RKV.repl h h2)
    · rw [if_neg g, if_neg g]
      exact RKV.cons h1 (RKV.repl h h2)
theorem RKV.append {io : List Addr} {F : Hp} {l l' : List (Key × D)} {xs xs' : List (Key × V)} (r : RKV T io F l xs) (r' : RKV T io F l' xs') : RKV T io F (l ++ l') (xs ++ xs') :=
  ⟨by rw [List.map_append, List.map_append, r.1, r'.1], by rw [List.map_append, List.map_append]; exact r.2.append r'.2⟩
theorem RKV.put {io : List Addr} {F : Hp} {k : Key} {d : D} {v : V} {l : List (Key × D)} {xs : List (Key × V)} (r : RKV T io F l xs) (h : Rep T io F d v) : RKV T io F (putD l k d) (putK xs k v) := by
  unfold putD putK
  rw [r.anyk k]
  split
  · exact RKV.repl h r
  · exact r.append (RKV.cons h RKV.nil)
theorem RKV.merge {io : List Addr} {F : Hp} : ∀ {m : List (Key × D)} {ys : List (Key × V)} {l : List (Key × D)} {xs : List (Key × V)}, RKV T io F m ys → RKV T io F l xs → RKV T io F (mergeD l m) (mergeK xs ys)
  | [], ys, l, xs, r, z => by
    have : ys = [] := by
      have := r.length
      simpa using this.symm
    subst this
    exact z
  | p :: m, ys, l, xs, r, z => by
    obtain ⟨w, zs, rfl, h1, h2⟩ := RKV.cases r
    show RKV T io F (mergeD (putD l p.1 p.2) m) (mergeK (putK xs p.1 w) zs)
    exact RKV.merge (l := putD l p.1 p.2) h2 (RKV.put z h1)
theorem key_rep {io : List Addr} {F : Hp} {d : D} {v : V} {k : Key} (e : keyD d = some k) (r : Rep T io F d v) : v = kV k := by
  cases d <;> first | (cases e; done) | skip
  · cases e
    unfold Rep at r
    exact r
  · cases e
    unfold Rep at r
    exact r
theorem cell_dic' {io : List Addr} {h : LH} {H : Hp} {n : Nat} {l : List (Key × D)} (S : Sim T io h H) {v : V} (r : Rep T io (fz io h H) (.ref n) v) (e : h[n]? = some (some (.dic l))) :
    ∃ a xs, v = .ref a ∧ io[n]? = some a ∧ H a = some (.dK xs) ∧ RKV T io (fz io h H) l xs := by
  obtain ⟨a, xs, h1, h2, h3, h4, h5⟩ := cell_dic S r e
  exact ⟨a, xs, h1, h2, h3, h4, h5⟩
/-! ### methods -/
def rMt (T : Tab) (m : BMt) : V → List V → Hp → VK → Prop := fun x xs H Q => ∃ io h d ds, Sim T io h H ∧ Rep T io (fz io h H) d x ∧ Reps T io (fz io h H) ds xs ∧ Post T io h H [] NoW (Rep T) Q (bmtD m d ds h)
theorem mt_of {id : String} {m : BMt} (h1 : ∀ pins s σ H x y v us Q io h d e, Inv X pins σ H s → RelV x v → Vals [y] us → Sim T io h H → Rep T io (fz io h H) d x → Rep T io (fz io h H) e y → Post T io h H [] NoW (Rep T) Q (bmt1 m d e h) →
    wpAny (model X.prog X.w) X.A (call (.builtin id) (v :: us)) (EP X pins σ Q) X.xe s) : MtR X id (rMt T m) := by
  intro pins s σ H x xs v us Q I rx rs q
  obtain ⟨io, h, d, ds, S, rd, rr, p⟩ := q
  match ds, rr, p with
  | [], _, p => exact False.elim p
  | [e], rr, p =>
    obtain ⟨y, rfl, re⟩ := rr.one
    exact h1 pins s σ H x y v us Q io h d e I rx rs S rd re p
  | _ :: _ :: _, _, p => exact False.elim p
theorem m_split : MtR X "str.split" (rMt T .split) := by
  refine mt_of fun pins s σ H x y v us Q io h d e I rx rs S rd re p => ?_
  cases d <;> cases e <;> try exact False.elim p
  unfold Rep at rd re
  obtain ⟨g, p⟩ := Post.guard p
  obtain ⟨g1, g2⟩ := Bool.and_eq_true_iff.mp g
  refine L2.mt_split pins s σ H _ _ v us Q I rx rs ⟨_, _, rd, by rw [re], by simpa using g1, line_of g2, fun q n => Post.newL p S n (Reps.of_strs _)⟩
theorem m_join : MtR X "str.join" (rMt T .join) := by
  refine mt_of fun pins s σ H x y v us Q io h d e I rx rs S rd re p => ?_
  cases d <;> cases e <;> try exact False.elim p
  rename_i a l
  unfold Rep at rd re
  obtain ⟨b, xs, rfl, e, z⟩ := re
  have p : Post T io h H [] NoW (Rep T) Q (joinO a (strsD l) h) := p
  cases ei : strsD l with
  | none => rw [ei] at p; exact False.elim p
  | some ys =>
    rw [ei] at p
    have ex := Reps.strs ei z
    subst ex
    obtain ⟨g, p⟩ := Post.guard p
    exact L2.mt_join pins s σ H _ _ v us Q I rx rs ⟨_, _, ys, rd, rfl, .inl (SqL.of (fz_some e)), of_decide_eq_true g, Post.here p S str_rep⟩
theorem m_starts : MtR X "str.startswith" (rMt T .startswith) := by
  refine mt_of fun pins s σ H x y v us Q io h d e I rx rs S rd re p => ?_
  cases d <;> cases e <;> try exact False.elim p
  unfold Rep at rd re
  exact L2.mt_startswith pins s σ H _ _ v us Q I rx rs ⟨_, _, rd, by rw [re], Post.here p S bl_rep⟩
theorem m_ends : MtR X "str.endswith" (rMt T .endswith) := by
  refine mt_of fun pins s σ H x y v us Q io h d e I rx rs S rd re p => ?_
  cases d <;> cases e <;> try exact False.elim p
  unfold Rep at rd re
  exact L2.mt_endswith pins s σ H _ _ v us Q I rx rs ⟨_, _, rd, by rw [re], Post.here p S bl_rep⟩
theorem setC_post {io : List Addr} {h : LH} {H : Hp} {σ : L2.St} {W : WX} {β γ : Type} {R : List Addr → Hp → γ → β → Prop} {Q : β → Hp → Prop} {n : Nat} {c c' : Cell} {k : Unit → EM γ} {a : Addr} {o : HO} {P : Prop}
    (p : Post T io h H σ W R Q (bnd (setC n c') k h)) (e : h[n]? = some (some c)) (ea : io[n]? = some a) (S : Sim T io h H) (hc : CellAt T io (fz io h H) (upd H a o) a c')
    (f : Sim T io (h.set n (some c')) (upd H a o) → Grow io h H io (h.set n (some c')) (upd H a o) → Post T io (h.set n (some c')) (upd H a o) σ W R Q (k () (h.set n (some c'))) → P) : P := by
  obtain ⟨S', G⟩ := S.put (o := o) ea e hc
  refine f S' G ?_
  unfold bnd SX.setC at p
  rw [e] at p
  exact Post.from p G
theorem m_append : MtR X "list.append" (rMt T .append) := by
  refine mt_of fun pins s σ H x y v us Q io h d e I rx rs S rd re p => ?_
  cases d <;> try exact False.elim p
  rename_i n
  obtain ⟨c, ec, p⟩ := Post.getC (show Post T io h H [] NoW (Rep T) Q (bnd (getC n) (appD n e) h) from p)
  cases c <;> try exact False.elim p
  rename_i l
  obtain ⟨a, xs, rfl, ea, q, z⟩ := cell_lst S rd ec
  obtain ⟨g, p⟩ := Post.guard p
  have g := of_decide_eq_true g
  refine setC_post (o := .lst (xs ++ [y])) p ec ea S ⟨_, upd_same, z.append (Reps.cons re Reps.nil)⟩ fun S' G p => ?_
  exact L2.mt_append pins s σ H _ _ v us Q I rx rs ⟨a, xs, y, rfl, rfl, q, by rw [← z.length, sizeLine_eq]; omega, Post.here p S' non_rep⟩
theorem m_extend : MtR X "list.extend" (rMt T .extend) := by
  refine mt_of fun pins s σ H x y v us Q io h d e I rx rs S rd re p => ?_
  cases d <;> cases e <;> try exact False.elim p
  rename_i n l2
  obtain ⟨c, ec, p⟩ := Post.getC (show Post T io h H [] NoW (Rep T) Q (bnd (getC n) (extD n l2) h) from p)
  cases c <;> try exact False.elim p
  rename_i l
  obtain ⟨a, xs, rfl, ea, q, z⟩ := cell_lst S rd ec
  unfold Rep at re
  obtain ⟨b, ys, rfl, e2, z2⟩ := re
  obtain ⟨g, p⟩ := Post.guard p
  refine setC_post (o := .lst (xs ++ ys)) p ec ea S ⟨_, upd_same, z.append z2⟩ fun S' G p => ?_
  exact L2.mt_extend pins s σ H _ _ v us Q I rx rs ⟨a, b, xs, ys, rfl, rfl, q, fz_some e2, by rw [← z.length, ← z2.length]; exact line_of g, Post.here p S' non_rep⟩
theorem ixP_some {d : D} {p : PyData} (hp : d.toP = some p) : ∀ {l : List D} {i j : Nat}, ixP d l i = some j → ∃ m, j = i + m ∧ ∀ ps, D.toPs l = some ps → (∃ z, ps[m]? = some z ∧ PyData.eqv z p = true) ∧ ∀ (k : Nat) z, k < m → ps[k]? = some z → PyData.eqv z p = false
  | [], i, j, e => by cases e
  | x :: l, i, j, e => by
    unfold ixP at e
    cases eq : eqP x d with
    | none => rw [eq] at e; cases e
    | some b =>
      rw [eq] at e
      obtain ⟨px, pd, e1, e2, g1, g2, eb⟩ := eqP_some eq
      rw [hp] at e2
      cases e2
      cases b with
      | true =>
        cases e
        refine ⟨0, rfl, fun ps eps => ?_⟩
        unfold D.toPs at eps
        rw [e1] at eps
        split at eps
        · rename_i y ys q1 q2
          cases q1
          cases eps
          exact ⟨⟨px, rfl, eb.symm⟩, fun k z hk _ => absurd hk (Nat.not_lt_zero _)⟩
        · cases eps
      | false =>
        obtain ⟨m, rfl, f⟩ := ixP_some hp e
        refine ⟨m + 1, by omega, fun ps eps => ?_⟩
        unfold D.toPs at eps
        rw [e1] at eps
        split at eps
        · rename_i y ys q1 q2
          cases q1
          cases eps
          obtain ⟨f1, f2⟩ := f ys q2
          refine ⟨by simpa using f1, fun k z hk ek => ?_⟩
          cases k with
          | zero =>
            cases ek
            exact eb.symm
          | succ k => exact f2 k z (by omega) (by simpa using ek)
        · cases eps
theorem m_index (hT : T.K = X.K) (hu : X.A.units + 65 < cLine) : MtR X "list.index" (rMt T .index) := by
  refine mt_of fun pins s σ H x y v us Q io h d e I rx rs S rd re p => ?_
  cases d <;> try exact False.elim p
  rename_i l
  have p : Post T io h H [] NoW (Rep T) Q ((if ixOk l e then natO (ixP e l 0) else stk : EM D) h) := p
  cases eo : ixOk l e with
  | false => rw [eo] at p; exact False.elim p
  | true =>
    rw [eo] at p
    unfold ixOk at eo
    split at eo
    · rename_i ps pd q1 q2
      obtain ⟨g1, g2⟩ := Bool.and_eq_true_iff.mp eo
      cases ei : ixP e l 0 with
      | none => rw [ei] at p; exact False.elim p
      | some j =>
        rw [ei] at p
        obtain ⟨m, rfl, f⟩ := ixP_some q2 ei
        obtain ⟨⟨z, f1, f2⟩, f3⟩ := f ps q1
        have rd0 := rd
        unfold Rep at rd
        obtain ⟨a, xs, rfl, e1, zz⟩ := rd
        refine L2.mt_indexD hu pins s σ H _ _ v us Q I rx rs ⟨a, y, pd, ps, 0 + m, z, rfl, rfl, hT ▸ Rep.dp fz_le (.lst l) (.list ps) _ (by unfold D.toP; rw [q1]; rfl) rd0, hT ▸ Rep.dp fz_le e pd y q2 re, g1, g2, by rw [Nat.zero_add]; exact f1, f2, fun k z' hk => f3 k z' (by omega), Post.here p S int_rep⟩
    · cases eo
theorem merged_K {kvs more : List (Key × Value)} : True := trivial
theorem m_update : MtR X "dict.update" (rMt T .update) := by
  refine mt_of fun pins s σ H x y v us Q io h d e I rx rs S rd re p => ?_
  cases d <;> cases e <;> try exact False.elim p
  rename_i n m
  obtain ⟨c, ec, p⟩ := Post.getC (show Post T io h H [] NoW (Rep T) Q (bnd (getC n) (fun c => bnd (getC m) fun c2 => updD n m c c2) h) from p)
  obtain ⟨c2, ec2, p⟩ := Post.getC p
  cases c <;> cases c2 <;> try exact False.elim p
  rename_i l l2
  obtain ⟨a, xs, rfl, ea, q, z⟩ := cell_dic' S rd ec
  obtain ⟨b, ys, rfl, eb, q2, z2⟩ := cell_dic' S re ec2
  obtain ⟨g, p⟩ := Post.guard p
  obtain ⟨g1, g2⟩ := Bool.and_eq_true_iff.mp g
  have hnm : n ≠ m := by simpa using g1
  have hab : a ≠ b := fun q => by
    subst q
    exact hnm (nd_ix S.nd ea eb)
  have zz := RKV.merge z2 z
  refine setC_post (o := .dK (mergeK xs ys)) p ec ea S ⟨_, upd_same, zz.1, zz.2⟩ fun S' G p => ?_
  have fin := Post.here p S' non_rep
  cases rx
  obtain ⟨u, rfl, ru⟩ := vals1 rs
  cases ru
  obtain ⟨lz, hd, vs, rel, dd⟩ := dk_rd I.hok (.inl q)
  obtain ⟨lz2, hd2, vs2, rel2, dd2⟩ := dk_rd I.hok (.inl q2)
  have hl : vs.length + vs2.length ≤ sizeLine := by
    rw [← rel.length, ← rel2.length, ← z.length, ← z2.length]
    exact line_of g2
  refine call_meetsIn PySem.F.slot_dict_update dd.typeIs PySem.F.entry_dict_update (PySem.F.args_dict_update_2 _ _) (meets_dict_update (mixKind X.prog X.w) a b hab hd2) ⟨vs, vs2, dd, dd2, hl, fun h' hd' ho' hs => ?_⟩
  have lm : (mergeK xs ys).length ≤ sizeLine := by
    refine Nat.le_trans (length_mergeK ys xs) ?_
    rw [rel.length, rel2.length]
    exact hl
  have he : ∃ w, h'.get? a = some w := by
    obtain ⟨o, _, _, ho, _⟩ := hd'
    exact ⟨o, ho⟩
  refine ⟨.non, _, d_write (t' := s.toks) I (by rw [q]; trivial) hs he ?_, rfl, fin⟩
  exact dk_new lm hd (KV.merge rel2 rel) hd'
/-! ### subscripts -/
def rIxA (T : Tab) (f : D → D → EM D) : R2 := fun x y H Q => ∃ io h d e, Sim T io h H ∧ Rep T io (fz io h H) d x ∧ Rep T io (fz io h H) e y ∧ Post T io h H [] NoW (Rep T) Q (f d e h)
theorem at_rep {io : List Addr} {F : Hp} {l : List D} {xs : List V} {i : Int} {d : D} (e : atD l i = some d) (r : Reps T io F l xs) : ∃ v, L2.atI xs i = some v ∧ Rep T io F d v := by
  unfold atD ixN at e
  unfold L2.atI
  rw [← r.length]
  cases q : L2.ixN l.length i with
  | none => rw [q] at e; cases e
  | some j =>
    rw [q] at e
    obtain ⟨v, h1, h2⟩ := r.get (show l[j]? = some d from e)
    exact ⟨v, h1, h2⟩
theorem ix_dict {value slice : Expr} {pins : List (Addr × Obj)} {s : Shared} {σ : L2.St} {H : Hp} {y : V} {u : Value} {Q : VK} {a : Addr} {xs : List (Key × V)} {k : Key} {w : V} (hu : X.A.units + 1 < cLine) (I : Inv X pins σ H s) (ry : RelV y u) (ea : H a = some (.dK xs)) (ek : y = kV k) (ev : valV xs k = some w) (q : Q w H)
    (hs : subscripted slice false (.ref a) u = operate [.ref a, u] (getItem (.ref a) u)) : wpAny (model X.prog X.w) X.A (subscriptTail value slice (.ref a) u) (EP X pins σ Q) X.xe s := by
  subst ek
  have g : DGet H a (kV k) (some w) := by
    rw [← ev]
    exact DGet.k ea
  exact tail_any (dict_typeIs I g) PySem.F.slot_dict_getitem.lookup (d_getItem hu I g ry fun w' s3 I3 rw' => ⟨w, H, I3, rw', q⟩) hs
theorem ix_any (hT : T.K = X.K) (hu : X.A.units + 1 < cLine) : IxR X (rIxA T idxD) := by
  intro value slice pins s σ H x y v u Q I rx ry q hs
  obtain ⟨io, h, d, e, S, rd, re, p⟩ := q
  cases d <;> (first | (cases e <;> exact False.elim p; done) | skip)
  case str z =>
    cases e <;> try exact False.elim p
    rename_i i
    obtain ⟨g, p⟩ := Post.guard p
    obtain ⟨d, ed, p⟩ := Post.ofO' p
    obtain ⟨c, ec, rfl⟩ := Option.map_eq_some_iff.mp ed
    unfold Rep at rd re
    exact ix_str value slice pins s σ H x y v u Q I rx ry ⟨z, i, c, rd, re, line_of g, ec, Post.here p S str_rep⟩ hs
  case lst l =>
    cases e <;> try exact False.elim p
    obtain ⟨d, ed, p⟩ := Post.ofO' p
    unfold Rep at rd re
    obtain ⟨a, xs, rfl, ea, z⟩ := rd
    obtain ⟨w, h1, h2⟩ := at_rep ed z
    exact ix_list value slice pins s σ H _ y v u Q I rx ry ⟨a, xs, _, w, rfl, re, SqL.of (fz_some ea), h1, Post.here p S h2⟩ hs
  case rol l =>
    cases e <;> try exact False.elim p
    obtain ⟨d, ed, p⟩ := Post.ofO' p
    unfold Rep at rd re
    obtain ⟨a, xs, rfl, ea, z⟩ := rd
    obtain ⟨w, h1, h2⟩ := at_rep ed z
    exact ix_list value slice pins s σ H _ y v u Q I rx ry ⟨a, xs, _, w, rfl, re, L2.Same.seq fz_le (hT ▸ ea), h1, Post.here p S h2⟩ hs
  case tup l =>
    cases e <;> try exact False.elim p
    obtain ⟨d, ed, p⟩ := Post.ofO' p
    unfold Rep at rd re
    obtain ⟨a, xs, rfl, ea, z⟩ := rd
    obtain ⟨w, h1, h2⟩ := at_rep ed z
    exact ix_tup value slice pins s σ H _ y v u Q I rx ry ⟨a, xs, _, w, rfl, re, Same.seqT fz_le (hT ▸ ea), h1, Post.here p S h2⟩ hs
  case ref n =>
    obtain ⟨c, ec, p⟩ := Post.getC (k := fun c => idxC c e) (show Post T io h H [] NoW (Rep T) Q (bnd (getC n) (fun c => idxC c e) h) by cases e <;> exact p)
    cases c with
    | obj c fs => cases e <;> exact False.elim p
    | lst l =>
      cases e <;> try exact False.elim p
      obtain ⟨d, ed, p⟩ := Post.ofO' p
      obtain ⟨a, xs, rfl, ea, q, z⟩ := cell_lst S rd ec
      unfold Rep at re
      obtain ⟨w, h1, h2⟩ := at_rep ed z
      exact ix_list value slice pins s σ H _ y v u Q I rx ry ⟨a, xs, _, w, rfl, re, SqL.of q, h1, Post.here p S h2⟩ hs
    | dic kvs =>
      have p : Post T io h H [] NoW (Rep T) Q (keyO kvs (keyD e) h) := by cases e <;> exact p
      cases ek : keyD e with
      | none => rw [ek] at p; exact False.elim p
      | some k =>
        rw [ek] at p
        obtain ⟨d, ed, p⟩ := Post.ofO' (show Post T io h H [] NoW (Rep T) Q (SX.ofO (valD kvs k) h) from p)
        obtain ⟨a, xs, rfl, ea, q, z⟩ := cell_dic' S rd ec
        obtain ⟨w, h1, h2⟩ := z.val ed
        cases rx
        exact ix_dict hu I ry q (key_rep ek re) h1 (Post.here p S h2) hs
/-! ### slices -/
def rSlD (T : Tab) : V → Option Int → Option Int → Hp → VK → Prop := fun x lo hi H Q => ∃ io h d, Sim T io h H ∧ Rep T io (fz io h H) d x ∧ Post T io h H [] NoW (Rep T) Q (slcD d lo hi h)
theorem cut_reps {io : List Addr} {F : Hp} {l : List D} {xs : List V} (r : Reps T io F l xs) (lo hi : Option Int) : Reps T io F (cutD l lo hi) (cutV xs lo hi) := by
  unfold cutD cutV
  rw [← r.length]
  exact (r.drop _).take _
theorem sl_any (hT : T.K = X.K) : SlR X (rSlD T) := by
  intro pins s σ H x v vl vu lo hi sl Q I rx hs pl pu q
  obtain ⟨io, h, d, S, rd, p⟩ := q
  cases d <;> try exact False.elim p
  case str z =>
    obtain ⟨g, p⟩ := Post.guard p
    unfold Rep at rd
    exact sl_str pins s σ H x v vl vu lo hi sl Q I rx hs pl pu ⟨z, rd, line_of g, Post.here p S str_rep⟩
  case lst l =>
    unfold Rep at rd
    obtain ⟨a, xs, rfl, ea, z⟩ := rd
    exact sl_list pins s σ H _ v vl vu lo hi sl Q I rx hs pl pu ⟨a, xs, rfl, SqL.of (fz_some ea), fun q n => Post.newL p S n (cut_reps z lo hi)⟩
  case tup l =>
    have rd0 := rd
    unfold Rep at rd
    obtain ⟨a, xs, rfl, ea, z⟩ := rd
    refine sl_tupA pins s σ H _ v vl vu lo hi sl Q I rx hs pl pu ⟨a, xs, rfl, Same.seqT fz_le (hT ▸ ea), fun ⟨e1, e2⟩ => ?_, fun _ q n => Post.newT p S n (cut_reps z lo hi)⟩
    have e : cutD l lo hi = l := by
      unfold cutD
      rw [z.length, e1, e2]
      show List.take (xs.length - 0) l = l
      rw [Nat.sub_zero, ← z.length]
      exact List.take_length
    have p : Post T io h H [] NoW (Rep T) Q (ret (.tup (cutD l lo hi)) h) := p
    rw [e] at p
    exact Post.here p S rd0
  case ref n =>
    obtain ⟨c, ec, p⟩ := Post.getC (show Post T io h H [] NoW (Rep T) Q (bnd (getC n) (slcC lo hi) h) from p)
    cases c <;> try exact False.elim p
    obtain ⟨a, xs, rfl, ea, q, z⟩ := cell_lst S rd ec
    exact sl_list pins s σ H _ v vl vu lo hi sl Q I rx hs pl pu ⟨a, xs, rfl, SqL.of q, fun q n => Post.newL p S n (cut_reps z lo hi)⟩
/-! ### a[i] = v -/
abbrev RU : List Addr → Hp → Unit → Unit → Prop := fun _ _ _ _ => True
def rSet (T : Tab) : TSet := fun o i v H Q => ∃ io h d e f, Sim T io h H ∧ Rep T io (fz io h H) d o ∧ Rep T io (fz io h H) e i ∧ Rep T io (fz io h H) f v ∧ Post T io h H [] NoW RU (fun _ H' => Q H') (setD d e f h)
theorem setC_post' {io : List Addr} {h : LH} {H : Hp} {σ : L2.St} {W : WX} {Q : Hp → Prop} {n : Nat} {c c' : Cell} {a : Addr} {o : HO}
    (p : Post T io h H σ W RU (fun _ H' => Q H') (setC n c' h)) (e : h[n]? = some (some c)) (ea : io[n]? = some a) (S : Sim T io h H) (hc : CellAt T io (fz io h H) (upd H a o) a c') : Q (upd H a o) := by
  obtain ⟨S', G⟩ := S.put (o := o) ea e hc
  unfold SX.setC at p
  rw [e] at p
  exact p io _ () S' G trivial
theorem set_any (hu : X.A.units + 1 < cLine) : PSet X (rSet T) := by
  intro pins s σ H o i v ov iv u Q I ro ri rv q
  obtain ⟨io, h, d, e, f, S, rd, re, rf, p⟩ := q
  cases d <;> (first | (cases e <;> exact False.elim p; done) | skip)
  rename_i n
  obtain ⟨c, ec, p⟩ := Post.getC (show Post T io h H [] NoW RU (fun _ H' => Q H') (bnd (getC n) (fun c => setCl n f c e) h) by cases e <;> exact p)
  cases c with
  | obj c fs => cases e <;> exact False.elim p
  | lst l =>
    cases e <;> try exact False.elim p
    rename_i j _
    obtain ⟨a, xs, rfl, ea, q, z⟩ := cell_lst S rd ec
    have p : Post T io h H [] NoW RU (fun _ H' => Q H') (setIx n l f (ixN l.length j) h) := p
    cases ej : ixN l.length j with
    | none => rw [ej] at p; exact False.elim p
    | some m =>
      rw [ej] at p
      unfold Rep at re
      refine set_list pins s σ H _ i v ov iv u Q I ro ri rv ⟨a, xs, j, m, rfl, re, q, ?_, ?_⟩
      · rw [← z.length]
        exact ej
      · exact setC_post' (o := .lst (xs.set m v)) (show Post T io h H [] NoW RU (fun _ H' => Q H') (setC n (.lst (l.set m f)) h) from p) ec ea S ⟨_, upd_same, z.set m rf⟩
  | dic kvs =>
    have p : Post T io h H [] NoW RU (fun _ H' => Q H') (setKy n kvs f (keyD e) h) := by cases e <;> exact p
    cases ek : keyD e with
    | none => rw [ek] at p; exact False.elim p
    | some k =>
      rw [ek] at p
      obtain ⟨g, p⟩ := Post.guard p
      have g := of_decide_eq_true g
      obtain ⟨a, xs, rfl, ea, q, z⟩ := cell_dic' S rd ec
      have zz := z.put (k := k) rf
      have ey := key_rep ek re
      subst ey
      cases ro
      refine d_setItem hu I (DPut.k (v := v) q (by rw [← z.length, sizeLine_eq]; omega)) ri rv fun s' I' => ⟨_, I', ?_⟩
      exact setC_post' (o := .dK (putK xs k v)) (show Post T io h H [] NoW RU (fun _ H' => Q H') (setC n (.dic (putD kvs k f)) h) from p) ec ea S ⟨_, upd_same, zz.1, zz.2⟩
end
end SX
end
section
set_option Elab.async false
set_option linter.all false
set_option maxRecDepth 100000
set_option maxHeartbeats 1000000
/-! SX7: expressions that call nothing of the program. -/
namespace SX
open PySem PySem.Spec PyProof.Rows L2
section
variable {X : Cx} {T : Tab} {W : WX}
theorem tE_bind {β γ : Type} {R2 : List Addr → Hp → γ → β → Prop} {m : Env → EM D} {k : Env → D → EM γ} {σ : L2.St} {H : Hp} {Q : β → Hp → Prop} {P : V → Hp → Prop} (p : tM T W R2 (fun env => bnd (m env) (k env)) σ H Q)
    (n : ∀ io h env d v H1, Sim T io h H1 → REnv T io (fz io h H1) env σ → Rep T io (fz io h H1) d v → Post T io h H1 σ W R2 Q (k env d h) → P v H1) : tE T W m σ H P := by
  obtain ⟨io, h, env, S, r, p⟩ := p
  exact step S r p fun io1 h1 d v H1 S1 G1 rd p1 => n io1 h1 env d v H1 S1 (r.grow G1) rd p1
theorem ok_neg {a : Expr} {pos : Pos} {m : Env → EM D} (ha : PE X a (tE T W m)) : PE X (.UnaryOp .USub a pos) (tE T W fun env => bnd (m env) fun x => match x with
    | .int i => ret (.int (-i))
    | _ => stk) := by
  refine (pe_un un_neg ha).imp fun σ H Q p => tE_bind p fun io h env d v H1 S r rd p1 => ?_
  cases d <;> try exact False.elim p1
  unfold Rep at rd
  exact ⟨_, rd, Post.here p1 S int_rep⟩
/-- an operator by values, over both -/
theorem ok_op2 {r2 : R2} {f : D → D → EM D} {ma mb : Env → EM D} {ta tb : TE} {σ : L2.St} {H : Hp} {Q : V → Hp → Prop} (hr : ∀ io h H d e x y Q, Sim T io h H → Rep T io (fz io h H) d x → Rep T io (fz io h H) e y → Post T io h H σ W (Rep T) Q (f d e h) → r2 x y H Q)
    (p : tE T W (fun env => bnd (ma env) fun x => bnd (mb env) fun y => f x y) σ H Q) : tOp r2 (tE T W ma) (tE T W mb) σ H Q := by
  obtain ⟨io, h, env, S, r, p⟩ := p
  refine step S r p fun io1 h1 d v H1 S1 G1 rd p1 => ?_
  refine step S1 (r.grow G1) p1 fun io2 h2 d2 v2 H2 S2 G2 rd2 p2 => ?_
  exact hr io2 h2 H2 d d2 v v2 Q S2 (rd.grow G2) rd2 p2
theorem ok_cmp {op : CmpOp} {f : D → D → EM Bool} {g : D → D → Option Bool} {a b : Expr} {pos : Pos} {ma mb : Env → EM D} (o : OpR X (compareOp op) (rC T g)) (hf : ∀ x y, f x y = ofO (g x y)) (hb' : behindInMarks op b = false)
    (ha : PE X a (tE T W ma)) (hb : PE X b (tE T W mb)) : PE X (.Compare a [op] [b] pos) (tE T W fun env => bnd (ma env) fun x => bnd (mb env) fun y => bnd (f x y) fun k => ret (.bl k)) := by
  refine (pe_cmpR o ha hb hb').imp fun σ H Q p => ok_op2 (W := W) (ta := tE T W ma) (tb := tE T W mb) (f := fun x y => bnd (f x y) fun k => ret (.bl k)) (fun io h H d e x y Q S rd re p => ?_) p
  rw [hf] at p
  obtain ⟨k, e1, p⟩ := Post.ofO p
  exact ⟨io, h, d, e, k, S, rd, re, e1, Post.here p S bl_rep⟩
theorem ok_chn {op op' : CmpOp} {g g' : D → D → Option Bool} {a b c : Expr} {pos : Pos} {ma mb mc : Env → EM D} (o : OpR X (compareOp op) (rC T g)) (o' : OpR X (compareOp op') (rC T g')) (hm : behindInMarks op' c = false)
    (ha : PE X a (tE T W ma)) (hb : PE X b (tE T W mb)) (hc : PE X c (tE T W mc)) :
    PE X (.Compare a [op, op'] [b, c] pos) (tE T W fun env => bnd (ma env) fun x => bnd (mb env) fun y => bnd (ofO (g x y)) fun k => if k = true then bnd (mc env) fun z => bnd (ofO (g' y z)) fun k2 => ret (.bl k2) else ret (.bl false)) := by
  refine (pe_chain o o' ha hb hc hm).imp fun σ H Q ⟨io, h, env, S, r, p⟩ => ?_
  refine step S r p fun io1 h1 d v H1 S1 G1 rd p1 => ?_
  refine step S1 (r.grow G1) p1 fun io2 h2 d2 v2 H2 S2 G2 rd2 p2 => ?_
  obtain ⟨k, e1, p3⟩ := Post.ofO p2
  refine ⟨io2, h2, d, d2, k, S2, rd.grow G2, rd2, e1, k, rfl, ?_⟩
  cases k with
  | false => exact Post.here p3 S2 bl_rep
  | true =>
    refine step S2 ((r.grow G1).grow G2) p3 fun io3 h3 d3 v3 H3 S3 G3 rd3 p4 => ?_
    obtain ⟨k2, e2, p5⟩ := Post.ofO p4
    exact ⟨io3, h3, d2, d3, k2, S3, rd2.grow G3, rd3, e2, Post.here p5 S3 bl_rep⟩
/-! ### truth -/
theorem tru_post {io : List Addr} {h : LH} {H : Hp} {σ : L2.St} {β γ : Type} {R : List Addr → Hp → γ → β → Prop} {Q : β → Hp → Prop} {d : D} {v : V} {k : Bool → EM γ} (hT : T.K = X.K) (S : Sim T io h H) (r : Rep T io (fz io h H) d v) (p : Post T io h H σ W R Q (bnd (truD d) k h)) :
    ∃ b, TruV X.K v H b ∧ Post T io h H σ W R Q (k b h) := by
  cases d <;> try exact False.elim p
  case non => unfold Rep at r; subst r; exact ⟨false, rfl, p⟩
  case bl b => unfold Rep at r; subst r; exact ⟨b, rfl, p⟩
  case int i => unfold Rep at r; subst r; exact ⟨i != 0, rfl, p⟩
  case str z =>
    unfold Rep at r
    subst r
    have p : Post T io h H σ W R Q (bnd (guard' (fitB z.length)) (fun _ => k (z.length != 0)) h) := by
      have e : bnd (truD (.str z)) k = bnd (guard' (fitB z.length)) (fun _ => k (z.length != 0)) := bnd_bnd _ _ _
      rw [← e]
      exact p
    obtain ⟨g, p⟩ := Post.guard p
    refine ⟨z.length != 0, ⟨line_of g, ?_⟩, p⟩
    cases z.length <;> rfl
  case lst l =>
    unfold Rep at r
    obtain ⟨a, xs, rfl, e, z⟩ := r
    refine ⟨!l.isEmpty, .inl ⟨xs, SqL.of (fz_some e), ?_⟩, p⟩
    have := z.length
    cases l <;> cases xs <;> first | rfl | cases this
  case tup l =>
    unfold Rep at r
    obtain ⟨a, xs, rfl, e, z⟩ := r
    refine ⟨!l.isEmpty, .inr (.inl ⟨xs, Same.seqT fz_le (hT ▸ e), ?_⟩), p⟩
    have := z.length
    cases l <;> cases xs <;> first | rfl | cases this
theorem ok_and {a b : Expr} {rest : List Expr} {pos : Pos} {ma mb : Env → EM D} (hT : T.K = X.K) (ha : PE X a (tE T W ma)) (hb : PE X (.BoolOp .And (b :: rest) pos) (tE T W mb)) :
    PE X (.BoolOp .And (a :: b :: rest) pos) (tE T W fun env => bnd (ma env) fun x => bnd (truD x) fun k => if k = true then mb env else ret x) := by
  refine (pe_andT ha hb).imp fun σ H Q ⟨io, h, env, S, r, p⟩ => ?_
  refine step S r p fun io1 h1 d v H1 S1 G1 rd p1 => ?_
  obtain ⟨k, t, p2⟩ := tru_post hT S1 rd p1
  refine ⟨k, t, ?_⟩
  cases k with
  | true => exact tM.of S1 (r.grow G1) p2
  | false => exact Post.here p2 S1 rd
theorem ok_or {a b : Expr} {rest : List Expr} {pos : Pos} {ma mb : Env → EM D} (hT : T.K = X.K) (ha : PE X a (tE T W ma)) (hb : PE X (.BoolOp .Or (b :: rest) pos) (tE T W mb)) :
    PE X (.BoolOp .Or (a :: b :: rest) pos) (tE T W fun env => bnd (ma env) fun x => bnd (truD x) fun k => if k = true then ret x else mb env) := by
  refine (pe_orT ha hb).imp fun σ H Q ⟨io, h, env, S, r, p⟩ => ?_
  refine step S r p fun io1 h1 d v H1 S1 G1 rd p1 => ?_
  obtain ⟨k, t, p2⟩ := tru_post hT S1 rd p1
  refine ⟨k, t, ?_⟩
  cases k with
  | false => exact tM.of S1 (r.grow G1) p2
  | true => exact Post.here p2 S1 rd
theorem ok_not {a : Expr} {pos : Pos} {m : Env → EM D} (hT : T.K = X.K) (ha : PE X a (tE T W m)) : PE X (.UnaryOp .Not a pos) (tE T W fun env => bnd (m env) fun x => bnd (truD x) fun k => ret (.bl (!k))) := by
  refine (pe_notT ha).imp fun σ H Q ⟨io, h, env, S, r, p⟩ => ?_
  refine step S r p fun io1 h1 d v H1 S1 G1 rd p1 => ?_
  obtain ⟨k, t, p2⟩ := tru_post hT S1 rd p1
  exact ⟨k, t, Post.here p2 S1 bl_rep⟩
/-- a test: what the evaluation gives, by truth -/
abbrev tEt (T : Tab) (W : WX) (m : Env → EM D) : TT := tT T W fun env => bnd (m env) truD
theorem pt_plain {a : Expr} {m : Env → EM D} (hT : T.K = X.K) (ha : PE X a (tE T W m)) (he : ∀ whole, isTrue a X.env whole = (do let v ← whole; standAt a.pos; holding [v] (truthy v))) : PT X a (tEt T W m) := by
  refine (pt_truth ha he).imp fun σ H Q ⟨io, h, env, S, r, p⟩ => ?_
  refine step S r p fun io1 h1 d v H1 S1 G1 rd p1 => ?_
  rw [← bnd_pure (truD d)] at p1
  obtain ⟨k, t, p2⟩ := tru_post hT S1 rd p1
  exact ⟨k, t, Post.here p2 S1 rfl⟩
/-- a test of a value that is a truth value -/
theorem pt_bool {a : Expr} {m : Env → EM D} {m' : Env → EM Bool} (ha : PT X a (tT T W m')) (he : ∀ env, bnd (m env) truD = m' env) : PT X a (tEt T W m) :=
  ha.imp fun σ H Q p => by
    have e : (fun env => bnd (m env) truD) = m' := funext he
    unfold tEt at p
    rw [e] at p
    exact p
theorem tt_cmp {op : CmpOp} {f : D → D → EM Bool} {g : D → D → Option Bool} {a b : Expr} {pos : Pos} {ma mb : Env → EM D} (o : OpR X (compareOp op) (rC T g)) (hf : ∀ x y, f x y = ofO (g x y)) (hb' : behindInMarks op b = false)
    (ha : PE X a (tE T W ma)) (hb : PE X b (tE T W mb)) : PT X (.Compare a [op] [b] pos) (tEt T W fun env => bnd (ma env) fun x => bnd (mb env) fun y => bnd (f x y) fun k => ret (.bl k)) := by
  refine (pt_cmpR o ha hb hb').imp fun σ H Q ⟨io, h, env, S, r, p⟩ => ?_
  simp only [bnd_bnd, bnd_ret, truD] at p
  refine step S r p fun io1 h1 d v H1 S1 G1 rd p1 => ?_
  refine step S1 (r.grow G1) p1 fun io2 h2 d2 v2 H2 S2 G2 rd2 p2 => ?_
  rw [hf] at p2
  obtain ⟨k, e1, p3⟩ := Post.ofO p2
  exact ⟨io2, h2, d, d2, k, S2, rd.grow G2, rd2, e1, k, rfl, Post.here p3 S2 rfl⟩
theorem tt_chn {op op' : CmpOp} {g g' : D → D → Option Bool} {a b c : Expr} {pos : Pos} {ma mb mc : Env → EM D} (o : OpR X (compareOp op) (rC T g)) (o' : OpR X (compareOp op') (rC T g')) (hm : behindInMarks op' c = false)
    (ha : PE X a (tE T W ma)) (hb : PE X b (tE T W mb)) (hc : PE X c (tE T W mc)) :
    PT X (.Compare a [op, op'] [b, c] pos) (tEt T W fun env => bnd (ma env) fun x => bnd (mb env) fun y => bnd (ofO (g x y)) fun k => if k = true then bnd (mc env) fun z => bnd (ofO (g' y z)) fun k2 => ret (.bl k2) else ret (.bl false)) := by
  refine (pt_chain o o' ha hb hc hm).imp fun σ H Q ⟨io, h, env, S, r, p⟩ => ?_
  simp only [bnd_bnd] at p
  refine step S r p fun io1 h1 d v H1 S1 G1 rd p1 => ?_
  refine step S1 (r.grow G1) p1 fun io2 h2 d2 v2 H2 S2 G2 rd2 p2 => ?_
  obtain ⟨k, e1, p3⟩ := Post.ofO p2
  refine ⟨io2, h2, d, d2, k, S2, rd.grow G2, rd2, e1, k, rfl, ?_⟩
  cases k with
  | false => exact ⟨false, rfl, Post.here (show Post T io2 h2 H2 σ W RB Q (ret false h2) from p3) S2 rfl⟩
  | true =>
    rw [if_pos rfl] at p3 ⊢
    simp only [bnd_bnd, bnd_ret, truD] at p3
    refine step S2 ((r.grow G1).grow G2) p3 fun io3 h3 d3 v3 H3 S3 G3 rd3 p4 => ?_
    obtain ⟨k2, e2, p5⟩ := Post.ofO p4
    exact ⟨io3, h3, d2, d3, k2, S3, rd2.grow G3, rd3, e2, k2, rfl, Post.here p5 S3 rfl⟩
theorem truD_cases (x : D) : (∃ k, truD x = ret k) ∨ truD x = stk := by
  cases x <;> first | exact .inl ⟨_, rfl⟩ | exact .inr rfl | skip
  rename_i z
  cases g : fitB z.length with
  | true =>
    refine .inl ⟨z.length != 0, ?_⟩
    show bnd (guard' (fitB z.length)) (fun _ => ret (z.length != 0)) = _
    rw [g]
    rfl
  | false =>
    refine .inr ?_
    show bnd (guard' (fitB z.length)) (fun _ => ret (z.length != 0)) = _
    rw [g]
    rfl
theorem tru_and (m n : EM D) : bnd (bnd m fun x => bnd (truD x) fun k => if k = true then n else ret x) truD = bnd (bnd m truD) fun k => if k = true then bnd n truD else ret false := by
  rw [bnd_bnd, bnd_bnd]
  congr 1
  funext x
  rw [bnd_bnd]
  rcases truD_cases x with ⟨k, e⟩ | e
  · rw [e, bnd_ret, bnd_ret]
    cases k with
    | true => rfl
    | false => exact e
  · rw [e]
    rfl
theorem tru_or (m n : EM D) : bnd (bnd m fun x => bnd (truD x) fun k => if k = true then ret x else n) truD = bnd (bnd m truD) fun k => if k = true then ret true else bnd n truD := by
  rw [bnd_bnd, bnd_bnd]
  congr 1
  funext x
  rw [bnd_bnd]
  rcases truD_cases x with ⟨k, e⟩ | e
  · rw [e, bnd_ret, bnd_ret]
    cases k with
    | false => rfl
    | true => exact e
  · rw [e]
    rfl
theorem tt_and {a b : Expr} {rest : List Expr} {pos : Pos} {ma mb : Env → EM D} (ha : PT X a (tEt T W ma)) (hb : PW X (.BoolOp .And (b :: rest) pos) (tEt T W mb)) :
    PW X (.BoolOp .And (a :: b :: rest) pos) (tEt T W fun env => bnd (ma env) fun x => bnd (truD x) fun k => if k = true then mb env else ret x) := by
  refine ⟨fun wh pins s σ H Q I q => (pw_and ha hb).run wh pins s σ H Q I ?_⟩
  obtain ⟨io, h, env, S, r, p⟩ := q
  dsimp only at p
  rw [tru_and] at p
  refine step (m := fun env => bnd (ma env) truD) S r p fun io1 h1 k b H1 S1 G1 rk p1 => ?_
  cases rk
  cases k with
  | true => exact tM.of S1 (r.grow G1) p1
  | false => exact Post.here (show Post T io1 h1 H1 σ W RB Q (ret false h1) from p1) S1 rfl
theorem tt_or {a b : Expr} {rest : List Expr} {pos : Pos} {ma mb : Env → EM D} (ha : PT X a (tEt T W ma)) (hb : PW X (.BoolOp .Or (b :: rest) pos) (tEt T W mb)) :
    PW X (.BoolOp .Or (a :: b :: rest) pos) (tEt T W fun env => bnd (ma env) fun x => bnd (truD x) fun k => if k = true then ret x else mb env) := by
  refine ⟨fun wh pins s σ H Q I q => (pw_or ha hb).run wh pins s σ H Q I ?_⟩
  obtain ⟨io, h, env, S, r, p⟩ := q
  dsimp only at p
  rw [tru_or] at p
  refine step (m := fun env => bnd (ma env) truD) S r p fun io1 h1 k b H1 S1 G1 rk p1 => ?_
  cases rk
  cases k with
  | false => exact tM.of S1 (r.grow G1) p1
  | true => exact Post.here (show Post T io1 h1 H1 σ W RB Q (ret true h1) from p1) S1 rfl
theorem tt_not {a : Expr} {pos : Pos} {m : Env → EM D} (ha : PT X a (tEt T W m)) : PT X (.UnaryOp .Not a pos) (tEt T W fun env => bnd (m env) fun x => bnd (truD x) fun k => ret (.bl (!k))) := by
  refine (pt_not ha).imp fun σ H Q ⟨io, h, env, S, r, p⟩ => ?_
  have e : (bnd (bnd (m env) fun x => bnd (truD x) fun k => ret (.bl (!k))) truD) = bnd (bnd (m env) truD) fun k => ret (!k) := by
    simp only [bnd_bnd, bnd_ret, truD]
  dsimp only at p
  rw [e] at p
  refine step (m := fun env => bnd (m env) truD) S r p fun io1 h1 k b H1 S1 G1 rk p1 => ?_
  cases rk
  exact Post.here p1 S1 rfl
theorem tru_ite (m n o : EM D) : bnd (bnd m fun x => bnd (truD x) fun k => if k = true then n else o) truD = bnd (bnd m truD) fun k => if k = true then bnd n truD else bnd o truD := by
  rw [bnd_bnd, bnd_bnd]
  congr 1
  funext x
  rw [bnd_bnd]
  congr 1
  funext k
  cases k <;> rfl
theorem ok_ite {c a b : Expr} {pos : Pos} {mc ma mb : Env → EM D} (hc : PT X c (tEt T W mc)) (ha : PE X a (tE T W ma)) (hb : PE X b (tE T W mb)) :
    PE X (.IfExp c a b pos) (tE T W fun env => bnd (mc env) fun x => bnd (truD x) fun k => if k = true then ma env else mb env) := by
  refine (pe_ifExp hc ha hb).imp fun σ H Q ⟨io, h, env, S, r, p⟩ => ?_
  dsimp only at p
  rw [← bnd_bnd] at p
  refine step (m := fun env => bnd (mc env) truD) S r p fun io1 h1 k b H1 S1 G1 rk p1 => ?_
  cases rk
  cases k with
  | true => exact tM.of S1 (r.grow G1) p1
  | false => exact tM.of S1 (r.grow G1) p1
/-! ### displays -/
theorem ok_lnil : PA X [] (tA T W fun _ => ret []) := pa_nil.imp fun σ H Q ⟨io, h, env, S, _, p⟩ => Post.here p S Reps.nil
theorem ok_lone {e : Expr} {es : List Expr} {me : Env → EM D} {mr : Env → EM (List D)} (hs : starEach (e :: es) X.env = (false, eval e X.env) :: starEach es X.env) (he : PE X e (tE T W me)) (hr : PA X es (tA T W mr)) :
    PA X (e :: es) (tA T W fun env => bnd (me env) fun x => bnd (mr env) fun xs => ret (x :: xs)) := by
  refine (pa_cons he hr hs).imp fun σ H Q ⟨io, h, env, S, r, p⟩ => ?_
  refine step S r p fun io1 h1 d v H1 S1 G1 rd p1 => ?_
  refine step S1 (r.grow G1) p1 fun io2 h2 ds vs H2 S2 G2 rs p2 => ?_
  exact Post.here p2 S2 (Reps.cons (rd.grow G2) rs)
theorem ok_lsta {e : Expr} {es : List Expr} {ps : Pos} {me : Env → EM D} {mr : Env → EM (List D)} (hT : T.K = X.K) (he : PE X e (tE T W me)) (hr : PA X es (tA T W mr)) :
    PA X (.Starred e ps :: es) (tA T W fun env => bnd (me env) fun x => match x with
      | .lst l => bnd (mr env) fun xs => ret (l ++ xs)
      | .tup l => bnd (mr env) fun xs => ret (l ++ xs)
      | _ => stk) := by
  refine (StX.pa_star he hr rfl).imp fun σ H Q ⟨io, h, env, S, r, p⟩ => ?_
  refine step S r p fun io1 h1 d v H1 S1 G1 rd p1 => ?_
  cases d <;> try exact False.elim p1
  case lst l =>
    unfold Rep at rd
    obtain ⟨a, xs, rfl, e, z⟩ := rd
    refine ⟨a, xs, rfl, .inr (SqL.of (fz_some e)), ?_⟩
    refine step S1 (r.grow G1) p1 fun io2 h2 ds vs H2 S2 G2 rs p2 => ?_
    exact Post.here p2 S2 ((z.grow G2).append rs)
  case tup l =>
    unfold Rep at rd
    obtain ⟨a, xs, rfl, e, z⟩ := rd
    refine ⟨a, xs, rfl, .inl (Same.seqT fz_le (hT ▸ e)), ?_⟩
    refine step S1 (r.grow G1) p1 fun io2 h2 ds vs H2 S2 G2 rs p2 => ?_
    exact Post.here p2 S2 ((z.grow G2).append rs)
theorem ok_tup {es : List Expr} {k : Nat} {pos : Pos} {m : Env → EM (List D)} (h : PA X es (tA T W m)) : PE X (.Tuple es k pos) (tE T W fun env => bnd (m env) fun vs => bnd (guard' (fitB vs.length)) fun _ => ret (.tup vs)) := by
  refine (pe_tup h).imp fun σ H Q ⟨io, h, env, S, r, p⟩ => ?_
  refine step S r p fun io1 h1 ds vs H1 S1 G1 rs p1 => ?_
  obtain ⟨g, p2⟩ := Post.guard p1
  exact ⟨by rw [← rs.length]; exact line_of g, fun q n => Post.newT p2 S1 n rs⟩
theorem ok_lst {es : List Expr} {pos : Pos} {m : Env → EM (List D)} (h : PA X es (tA T W m)) : PE X (.List es pos) (tE T W fun env => bnd (m env) fun vs => bnd (guard' (fitB vs.length)) fun _ => ret (.lst vs)) := by
  refine (pe_lst h).imp fun σ H Q ⟨io, h, env, S, r, p⟩ => ?_
  refine step S r p fun io1 h1 ds vs H1 S1 G1 rs p1 => ?_
  obtain ⟨g, p2⟩ := Post.guard p1
  exact ⟨by rw [← rs.length]; exact line_of g, fun q n => Post.newL p2 S1 n rs⟩
theorem newC_post {io : List Addr} {h : LH} {H : Hp} {σ : L2.St} {Q : V → Hp → Prop} {c : Cell} {q : Addr} {o : HO} (p : Post T io h H σ W (Rep T) Q (newC c h)) (S : Sim T io h H) (n : H q = none) (hc : CellAt T io (fz io h H) (upd H q o) q c) : Q (.ref q) (upd H q o) := by
  obtain ⟨S', G⟩ := S.push n hc
  refine p _ _ _ S' G ?_
  unfold Rep
  refine ⟨q, rfl, ?_⟩
  rw [← S.len]
  simp
theorem ok_lsc {es : List Expr} {pos : Pos} {m : Env → EM (List D)} (h : PA X es (tA T W m)) : PE X (.List es pos) (tE T W fun env => bnd (m env) fun vs => bnd (guard' (fitB vs.length)) fun _ => newC (.lst vs)) := by
  refine (pe_lst h).imp fun σ H Q ⟨io, h, env, S, r, p⟩ => ?_
  refine step S r p fun io1 h1 ds vs H1 S1 G1 rs p1 => ?_
  obtain ⟨g, p2⟩ := Post.guard p1
  exact ⟨by rw [← rs.length]; exact line_of g, fun q n => newC_post p2 S1 n ⟨vs, upd_same, rs⟩⟩
/-! ### subscripts, slices -/
theorem calm_idx (x y : D) : Calm (idxD x y) := by
  cases x <;> cases y <;> first | exact Calm.stk | exact Calm.ofO _ | exact Calm.bnd (Calm.guard _) fun _ => Calm.ofO _ | skip
  all_goals (refine Calm.bnd (Calm.getC _) fun c => ?_; cases c <;> first | exact Calm.stk | exact Calm.ofO _ | skip)
  all_goals (unfold idxC; (first | (rename_i kvs; show Calm (keyO _ _)) | skip); (generalize keyD _ = k; cases k <;> first | exact Calm.stk | exact Calm.ofO _))
theorem ok_idx {a b : Expr} {pos : Pos} {ma mb : Env → EM D} (hT : T.K = X.K) (hu : X.A.units + 1 < cLine) (ha : PE X a (tE T W ma)) (hb : PE X b (tE T W mb)) (hs : PlainIx b) :
    PE X (.Subscript a b pos) (tE T W fun env => bnd (ma env) fun x => bnd (mb env) fun y => idxD x y) :=
  (pe_ix (ix_any hT hu) ha hb hs).imp fun σ H Q p => ok_op2 (W := W) (ta := tE T W ma) (tb := tE T W mb) (fun io h H d e x y Q S rd re p => ⟨io, h, d, e, S, rd, re, (calm_idx d e).post p⟩) p
def tO (T : Tab) (W : WX) (m : Env → EM (Option Int)) : TO := tM T W (fun _ _ a b => a = b) m
theorem ok_ono : PO X none (tO T W fun _ => ret none) := by
  refine ⟨fun pins s σ H Q I ⟨io, h, env, S, r, p⟩ => po_none.run pins s σ H Q I ?_⟩
  exact Post.here p S rfl
theorem ok_oso {e : Expr} {m : Env → EM D} (he : PE X e (tE T W m)) : PO X (some e) (tO T W fun env => bnd (m env) partD) := by
  refine ⟨fun pins s σ H Q I ⟨io, h, env, S, r, p⟩ => (po_some he).run pins s σ H Q I ?_⟩
  refine step S r p fun io1 h1 d v H1 S1 G1 rd p1 => ?_
  cases d <;> try exact False.elim p1
  unfold Rep at rd
  exact ⟨_, rd, Post.here (show Post T io1 h1 H1 σ W _ Q (ret (some _) h1) from p1) S1 rfl⟩
theorem calm_slc (x : D) (lo hi : Option Int) : Calm (slcD x lo hi) := by
  cases x <;> first | exact Calm.stk | exact Calm.ret _ | exact Calm.bnd (Calm.guard _) fun _ => Calm.ret _ | skip
  refine Calm.bnd (Calm.getC _) fun c => ?_
  cases c <;> first | exact Calm.stk | exact Calm.ret _
theorem ok_slc {a : Expr} {lo hi : Option Expr} {p2 pos : Pos} {ma : Env → EM D} {ml mh : Env → EM (Option Int)} (hT : T.K = X.K) (ha : PE X a (tE T W ma)) (hl : PO X lo (tO T W ml)) (hh : PO X hi (tO T W mh)) :
    PE X (.Subscript a (.Slice lo hi none p2) pos) (tE T W fun env => bnd (ma env) fun x => bnd (ml env) fun l => bnd (mh env) fun u => slcD x l u) := by
  refine (pe_slice (sl_any hT) ha hl hh).imp fun σ H Q ⟨io, h, env, S, r, p⟩ => ?_
  refine step S r p fun io1 h1 d v H1 S1 G1 rd p1 => ?_
  refine step S1 (r.grow G1) p1 fun io2 h2 l l' H2 S2 G2 rl p2 => ?_
  cases rl
  refine step S2 ((r.grow G1).grow G2) p2 fun io3 h3 u u' H3 S3 G3 ru p3 => ?_
  cases ru
  exact ⟨io3, h3, d, S3, (rd.grow G2).grow G3, (calm_slc d l u).post p3⟩
theorem ok_rev {e : Expr} {k : Nat} {p1 p2 p3 pos : Pos} {m : Env → EM D} (he : PE X e (tE T W m)) : PE X (.Subscript e (.Slice none none (some (.UnaryOp .USub (.Constant (.int 1) k p1) p2)) p3) pos) (tE T W fun env => bnd (m env) fun x => match x with
    | .lst l => ret (.lst l.reverse)
    | _ => stk) := by
  refine (pe_revL he).imp fun σ H Q ⟨io, h, env, S, r, p⟩ => ?_
  refine step S r p fun io1 h1 d v H1 S1 G1 rd p1 => ?_
  cases d <;> try exact False.elim p1
  unfold Rep at rd
  obtain ⟨a, xs, rfl, e, z⟩ := rd
  exact ⟨a, xs, rfl, SqL.of (fz_some e), fun q n => Post.newL p1 S1 n z.reverse⟩
end
end SX
end
section
set_option Elab.async false
set_option linter.all false
set_option maxRecDepth 100000
set_option maxHeartbeats 1000000
/-! SX8: calls of the program's own defs and classes, attributes. -/
namespace SX
open PySem PySem.Spec PyProof.Rows L2

/-- what a def promises: it computes s -/
def spS (T : Tab) (n : Nat) (s : Sem) : Sp := fun vs H Q E => ∃ io h ds, Sim T io h H ∧ Reps T io (fz io h H) ds vs ∧ ds.length = n ∧ Post T io h H [] (fun c d _ H' => E c d H') (Rep T) Q (s ds h)
/-- what is known of a call's surroundings, for repr -/
def Gd (T : Tab) (A : Around) : Prop := A.guards = some []
def FnS' (P : Program) (w : World) (K : PySem.W.Frag) (mg : Str → Option Value) (base : Heap) (T : Tab) (k : Nat) (f : Addr) (n : Nat) (s : Sem) : Prop :=
  ∀ (A : Around) (outer : List PySem.Env) (sh : Shared) (H : Hp) (us : List Value) (vs : List V) (Q : VK) (E : XK), Room k A → Gd T A → Env0 P w K mg base A outer sh H → Vals vs us → spS T n s vs H Q E →
    codeAny (model P w) A (.call (.ref f) ⟨us, []⟩) (CR (L2.CX P w) outer P w H sh Q E) sh
abbrev FnS (X : Cx) (T : Tab) (k : Nat) (f : Addr) (n : Nat) (s : Sem) : Prop := FnS' X.prog X.w X.K X.mg X.base T k f n s
theorem Gd.under {T : Tab} {A : Around} (g : Gd T A) (C : Addr) (us : List Value) (kw : List (Str × Value)) : Gd T (A.under (.builtin "type.__call__" ⟨.ref C :: us, kw⟩)) := by
  have e : (A.under (.builtin "type.__call__" ⟨.ref C :: us, kw⟩)).guards = A.guards := by
    first | rfl | simp [Around.under, pushGuards, Code.guards, guardIds, Code.isGuard]
  show (A.under (.builtin "type.__call__" ⟨.ref C :: us, kw⟩)).guards = some []
  rw [e]
  exact g
theorem Gd.in1 {T : Tab} {A : Around} (g : Gd T A) : Gd T A.in1 := g
theorem Gd.deeper {T : Tab} {A : Around} (g : Gd T A) (env : PySem.Env) : Gd T (A.deeper env) := g
section
variable {X : Cx} {T : Tab} {W : WX} {C : Ctx}
theorem Post.sig {α β : Type} {io : List Addr} {h : LH} {H : Hp} {σ σ' : L2.St} {W' : WX} {R : List Addr → Hp → α → β → Prop} {Q : β → Hp → Prop} {r : Res α} (hw : ∀ c d H', W c d σ H' → W' c d σ' H') (p : Post T io h H σ W R Q r) : Post T io h H σ' W' R Q r := by
  cases r with
  | ok a h' => exact p
  | ex x h' => exact fun io' H' c d S G r => hw _ _ _ (p io' H' c d S G r)
  | stuck => exact p
/-- the callee runs -/
theorem run_S {pins : List (Addr × Obj)} {σ : L2.St} {H : Hp} {sh : Shared} {Q : VK} {us : List Value} {vs : List V} {k n : Nat} {f : Addr} {s : Sem} {io : List Addr} {h : LH} {ds : List D} (F : FnS X T k f n s) (hr : Room k X.A) (hG : Gd T X.A) (tk : Takes X W)
    (I : Inv X pins σ H sh) (r : Vals vs us) (S : Sim T io h H) (rs : Reps T io (fz io h H) ds vs) (hn : ds.length = n) (p : Post T io h H σ W (Rep T) Q (s ds h)) :
    wpAny (model X.prog X.w) X.A (call (.ref f) us) (EP X pins σ Q) X.xe sh := by
  refine wpAny_call (codeAny_mono (F X.A X.stack sh H us vs Q (fun c d H' => W c d σ H') hr hG I.env0 r ⟨io, h, ds, S, rs, hn, p.sig fun _ _ _ z => z⟩) fun r s' hq => ?_)
  cases r with
  | error e => exact tk e s' (XE.of_call I (fun _ _ _ z => z) hq)
  | ok fl =>
    cases fl with
    | ret u => exact I.after hq
    | next => exact False.elim hq
    | brk => exact False.elim hq
    | cont => exact False.elim hq
theorem no_CX {H : Hp} {sh s' : Shared} {e : Value} {σ : L2.St} (h : L2.CX X.prog X.w X.stack H sh (fun c d H' => NoW c d σ H') e s') : False := by
  obtain ⟨_, _, _, _, _, _, _, _, _, _, _, _, z⟩ := h
  exact z
/-- .. where nothing is raised: the code's result, whatever is wanted of exceptions -/
theorem code_S0 {pins : List (Addr × Obj)} {σ σ' : L2.St} {H : Hp} {sh : Shared} {Q : VK} {us : List Value} {vs : List V} {k n : Nat} {f : Addr} {s : Sem} {io : List Addr} {h : LH} {ds : List D} {A : Around} (F : FnS X T k f n s) (hr : Room k A) (hG : Gd T A)
    (e0 : Env0 X.prog X.w X.K X.mg X.base A X.stack sh H) (I : Inv X pins σ H sh) (r : Vals vs us) (S : Sim T io h H) (rs : Reps T io (fz io h H) ds vs) (hn : ds.length = n) (p : Post T io h H σ' NoW (Rep T) Q (s ds h)) {R : Result → Shared → Prop}
    (hR : ∀ u s', EP X pins σ Q u s' → R (.ok (.ret u)) s') :
    codeAny (model X.prog X.w) A (.call (.ref f) ⟨us, []⟩) R sh := by
  refine codeAny_mono (F A X.stack sh H us vs Q (fun c d H' => NoW c d σ H') hr hG e0 r ⟨io, h, ds, S, rs, hn, p.sig fun _ _ _ z => z⟩) fun r s' hq => ?_
  cases r with
  | error e => exact (no_CX hq).elim
  | ok fl =>
    cases fl with
    | ret u => exact hR u s' (I.after hq)
    | next => exact False.elim hq
    | brk => exact False.elim hq
    | cont => exact False.elim hq

/-! ### f(..) -/
theorem use_some {o : Option Sem} {ds : List D} {io : List Addr} {h : LH} {H : Hp} {σ : L2.St} {Q : VK} (p : Post T io h H σ W (Rep T) Q (useD o ds h)) : ∃ s, o = some s ∧ Post T io h H σ W (Rep T) Q (s ds h) := by
  cases o with
  | none => exact False.elim p
  | some s => exact ⟨s, rfl, p⟩
/-- the arguments are written plainly -/
def plainArgs : List Expr → Bool
  | [] => true
  | .Starred _ _ :: _ => false
  | _ :: r => plainArgs r
theorem plain_cons {e : Expr} {es : List Expr} (h : plainArgs (e :: es) = true) (env : PySem.Env) : starEach (e :: es) env = (false, eval e env) :: starEach es env := by
  cases e <;> first | rfl | exact absurd h Bool.false_ne_true
theorem plain_tail {e : Expr} {es : List Expr} (h : plainArgs (e :: es) = true) : plainArgs es = true := by
  cases e <;> first | exact h | exact absurd h Bool.false_ne_true
theorem plain_any : ∀ {es : List Expr} (h : plainArgs es = true) (pos : Pos) (env : PySem.Env), (backTo pos (starEach es env)).any (·.1) = false
  | [], _, _, _ => rfl
  | e :: es, h, pos, env => by
    rw [plain_cons h]
    exact plain_any (plain_tail h) pos env
/-- a def of the module -/
structure FnG (X : Cx) (T : Tab) (k : Nat) (x : Str) (a : Addr) : Prop where
  mg : X.mg x = some (.ref a)
  kp : PySem.W.keepIn X.K (.ref a) = true
theorem ok_cal {k f : Nat} {a : Addr} {x : Str} {p pos : Pos} {e : Expr} {es : List Expr} {m : Env → EM (List D)} (hF : ∀ n s, C.fn f n = some s → FnS X T k a n s) (hr : Room k X.A) (hG : Gd T X.A) (tk : Takes X W) (hg : Gl X x) (hm : X.mg x = some (.ref a)) (hk : PySem.W.keepIn X.K (.ref a) = true)
    (hdb : (x == ("__debug__" : Str)) = false) (hp : plainArgs (e :: es) = true) (ha : PA X (e :: es) (tA T W m)) : PE X (.Call (.Name x p) (e :: es) [] pos) (tE T W fun env => bnd (m env) fun vs => useD (C.fn f vs.length) vs) := by
  refine ⟨fun pins s σ H Q I ⟨io, h, env, S, r, q⟩ => ?_⟩
  refine wpAny_Call_Name_kw (ld_glob I hg hm ?_ hdb)
  refine PySem.W.callWith_K (h₀ := X.base) I.ok.mod.kin hk (thn (ha.run pos pins s σ H _ I (step S r q fun io1 h1 ds vs H1 S1 G1 rs p1 => show (fun vs H1 => ∃ io1 h1 ds, Sim T io1 h1 H1 ∧ Reps T io1 (fz io1 h1 H1) ds vs ∧ Post T io1 h1 H1 σ W (Rep T) Q (useD (C.fn f ds.length) ds h1)) vs H1 from ⟨io1, h1, ds, S1, rs, p1⟩)) fun us s1 ⟨vs, H1, I1, rv, q1⟩ => ⟨I1.kIn, ?_⟩) (plain_cons hp _) (plain_any (plain_tail hp) _ _)
  obtain ⟨io1, h1, ds, S1, rs, p1⟩ := q1
  obtain ⟨sm, es, p2⟩ := use_some p1
  exact run_S (hF _ _ es) hr hG tk I1 rv S1 rs rfl p2
theorem ok_cal0 {k f : Nat} {a : Addr} {x : Str} {p pos : Pos} (hF : ∀ n s, C.fn f n = some s → FnS X T k a n s) (hr : Room k X.A) (hG : Gd T X.A) (tk : Takes X W) (hg : Gl X x) (hm : X.mg x = some (.ref a)) (hk : PySem.W.keepIn X.K (.ref a) = true)
    (hdb : (x == ("__debug__" : Str)) = false) : PE X (.Call (.Name x p) [] [] pos) (tE T W fun _ => useD (C.fn f 0) []) := by
  refine ⟨fun pins s σ H Q I ⟨io, h, env, S, r, q⟩ => ?_⟩
  refine wpAny_Call_Name_kw (ld_glob I hg hm ?_ hdb)
  obtain ⟨sm, es, p2⟩ := use_some q
  exact PySem.W.callWith_K0 I.kIn hk (run_S (us := []) (hF _ _ es) hr hG tk I .nil S Reps.nil rfl p2)

/-! ### o.m(..) -/
/-- what the class of an instance must have for its methods -/
structure MtG (X : Cx) (T : Tab) (C : Ctx) (k : Nat) (c m : Nat) : Prop where
  cls : Cls X.K (T.cad c)
  out : T.atn m ∉ T.names c
  meth : ∃ g, Meth X.K (T.cad c) (T.atn m) g ∧ ∀ n s, C.mt c m n = some s → FnS X T k g (n + 1) s
theorem lookup_out {x : Str} : ∀ {ns : List Str} {xs : List V}, x ∉ ns → (ns.zip xs).lookup x = none
  | [], _, _ => rfl
  | n :: ns, [], _ => rfl
  | n :: ns, v :: xs, h => by
    show ((n, v) :: ns.zip xs).lookup x = none
    have hx : x ≠ n := fun e => h (by rw [e]; exact List.mem_cons_self)
    rw [List.lookup_cons, beq_eq_false_iff_ne.mpr hx]
    exact lookup_out fun z => h (List.mem_cons_of_mem _ z)
theorem lookup_in {x : Str} : ∀ {ns : List Str} {xs : List V} {j : Nat} {v : V}, ns.Nodup → ns[j]? = some x → xs[j]? = some v → (ns.zip xs).lookup x = some v
  | [], _, _, _, _, e, _ => by simp at e
  | n :: ns, [], _, _, _, _, e => by simp at e
  | n :: ns, w :: xs, 0, v, nd, e1, e2 => by
    have e1' : n = x := Option.some.inj e1
    have e2' : w = v := Option.some.inj e2
    subst e1' e2'
    show ((n, w) :: ns.zip xs).lookup n = some w
    rw [List.lookup_cons, beq_self_eq_true]
  | n :: ns, w :: xs, j + 1, v, nd, e1, e2 => by
    have e1' : ns[j]? = some x := by simpa using e1
    have e2' : xs[j]? = some v := by simpa using e2
    show ((n, w) :: ns.zip xs).lookup x = some v
    have hx : x ≠ n := fun e => (List.nodup_cons.mp nd).1 (by rw [← e]; exact List.mem_of_getElem? e1')
    rw [List.lookup_cons, beq_eq_false_iff_ne.mpr hx]
    exact lookup_in (List.nodup_cons.mp nd).2 e1' e2'
/-- an instance, frozen or not: where it stands -/
theorem obj_at {io : List Addr} {h : LH} {H : Hp} {d : D} {v : V} {c : Nat} {σ : L2.St} {γ β : Type} {R : List Addr → Hp → γ → β → Prop} {Q : β → Hp → Prop} {k : Nat → EM γ} (S : Sim T io h H) (r : Rep T io (fz io h H) d v) (p : Post T io h H σ W R Q (bnd (clsOf d) k h)) :
    ∃ c a dx xs, v = .ref a ∧ H a = some (.ins (T.cad c) dx ((T.names c).zip xs)) ∧ Post T io h H σ W R Q (k c h) := by
  cases d <;> try exact False.elim p
  case obj c fs =>
    unfold Rep at r
    obtain ⟨a, dx, xs, rfl, e, _⟩ := r
    exact ⟨c, a, dx, xs, rfl, fz_some e, p⟩
  case ref n =>
    unfold Rep at r
    obtain ⟨a, rfl, ea⟩ := r
    have p' : Post T io h H σ W R Q (bnd (getC n) (fun x => bnd (match x with
      | .obj c _ => ret c
      | _ => stk) k) h) := by
      have e : bnd (clsOf (.ref n)) k = bnd (getC n) (fun x => bnd (match x with
        | .obj c _ => ret c
        | _ => stk) k) := bnd_bnd _ _ _
      rw [← e]
      exact p
    obtain ⟨cl, e, p2⟩ := Post.getC p'
    cases cl <;> try exact False.elim p2
    rename_i c fs
    obtain ⟨dx, xs, q, _, _⟩ := S.cell n a _ ea e
    exact ⟨c, a, dx, xs, rfl, q, p2⟩
/-- o.m(..): few arguments, on one line -/
theorem meth_tree {o : Expr} {m : Str} {apos pos : Pos} {es : List Expr} {env : PySem.Env} (hb : attributeBase o m env (eval o env) = eval o env) (hp : plainArgs es = true) (hl : es.length < 30) (hpos : (apos.endLine == pos.line) = true) :
    eval (.Call (.Attribute o m apos) es [] pos) env = (do
      let ov ← eval o env
      standAt apos.atName
      let (f, first) ← holding [ov] (getMethod ov m (do return (← importBound o env).getD true))
      callWith pos f first (backTo pos (starEach es env)) (backToKw pos (keywordEach [] env))) := by
  have all : ∀ (es : List Expr), plainArgs es = true → (backTo pos (starEach es env)).all (!·.1) = true := by
    intro es
    induction es with
    | nil => intro _; rfl
    | cons e es ih =>
      intro hp
      rw [plain_cons hp]
      exact ih (plain_tail hp)
  have hform : methodCallForm es.length (backTo pos (starEach es env)) (backToKw pos (keywordEach [] env)) = true := by
    unfold methodCallForm
    rw [all es hp]
    have : (decide (es.length + 0 < 30)) = true := decide_eq_true hl
    exact this
  rw [arm_eval_Call, hb]
  unfold methodCall
  have h0 : es.length + ([] : List Keyword).length = es.length := rfl
  rw [h0, hform]
  have h1 : methodCallPos true o env apos pos = pure pos := by
    unfold methodCallPos
    rw [hpos]
    rfl
  rw [h1]
  rfl
/-- the method step -/
theorem mth_step {io : List Addr} {h : LH} {H : Hp} {d : D} {v : V} {u : Value} {mm : Nat} {σ : L2.St} {pins : List (Addr × Obj)} {s : Shared} {γ β : Type} {R : List Addr → Hp → γ → β → Prop} {Q : β → Hp → Prop} {kk : Nat → EM γ} {k : Nat} {pl : PySem.Sem Bool} {P : Value × List Value → Shared → Prop}
    (hM : ∀ c, C.hasM c mm = true → MtG X T C k c mm) (I : Inv X pins σ H s) (rv : RelV v u) (S : Sim T io h H) (r : Rep T io (fz io h H) d v) (p : Post T io h H σ W R Q (bnd (clsOf d) (fun c => bnd (guard' (C.hasM c mm)) fun _ => kk c) h))
    (hP : ∀ c a g, v = .ref a → u = .ref a → (Meth X.K (T.cad c) (T.atn mm) g) → (∀ n s, C.mt c mm n = some s → FnS X T k g (n + 1) s) → Post T io h H σ W R Q (kk c h) → P (.ref g, [.ref a]) s) :
    wpAny (model X.prog X.w) X.A (getMethod u (T.atn mm) pl) P X.xe s := by
  obtain ⟨c, a, dx, xs, rfl, ea, p2⟩ := obj_at (c := 0) S r p
  obtain ⟨g1, p3⟩ := Post.guard p2
  obtain ⟨cl, out, g, hm, hf⟩ := hM c g1
  obtain rfl : u = Value.ref a := rv
  exact getmeth_ok I ea cl hm (lookup_out out) (hP c a g rfl rfl hm hf p3)
theorem ok_mth {k mm : Nat} {o : Expr} {apos pos : Pos} {e : Expr} {es : List Expr} {mo : Env → EM D} {m : Env → EM (List D)} (hM : ∀ c, C.hasM c mm = true → MtG X T C k c mm) (hr : Room k X.A) (hG : Gd T X.A) (tk : Takes X W)
    (hb : attributeBase o (T.atn mm) X.env (eval o X.env) = eval o X.env) (hp : plainArgs (e :: es) = true) (hl : (e :: es).length < 30) (hpos : (apos.endLine == pos.line) = true) (ho : PE X o (tE T W mo)) (ha : PA X (e :: es) (tA T W m)) :
    PE X (.Call (.Attribute o (T.atn mm) apos) (e :: es) [] pos) (tE T W fun env => bnd (mo env) fun x => bnd (clsOf x) fun c => bnd (guard' (C.hasM c mm)) fun _ => bnd (m env) fun vs => useD (C.mt c mm vs.length) (x :: vs)) := by
  refine ⟨fun pins s σ H Q I ⟨io, h, env, S, r, q⟩ => ?_⟩
  refine PySem.W.methodCall_KW (pl := do return (← importBound o X.env).getD true) (thn (ho.run pins s σ H _ I (step S r q fun io1 h1 d v H1 S1 G1 rd p1 =>
    show (fun v H1 => ∃ io1 h1 d, Sim T io1 h1 H1 ∧ REnv T io1 (fz io1 h1 H1) env σ ∧ Rep T io1 (fz io1 h1 H1) d v ∧ Post T io1 h1 H1 σ W (Rep T) Q (bnd (clsOf d) (fun c => bnd (guard' (C.hasM c mm)) fun _ => bnd (m env) fun vs => useD (C.mt c mm vs.length) (d :: vs)) h1)) v H1 from ⟨io1, h1, d, S1, r.grow G1, rd, p1⟩)) fun u s1 ⟨v, H1, I1, rv, io1, h1, d, S1, r1, rd, p1⟩ => ?_) (meth_tree hb hp hl hpos)
  refine mth_step (kk := fun c => bnd (m env) fun vs => useD (C.mt c mm vs.length) (d :: vs)) hM I1 rv S1 rd p1 fun c a g ev eu hm hf p3 => ?_
  subst ev eu
  refine PySem.W.callWith_K (first := [.ref a]) (h₀ := X.base) I1.ok.mod.kin hm.kp (thn (ha.run pos pins s1 σ H1 _ I1 (step S1 r1 p3 fun io2 h2 ds vs H2 S2 G2 rs p4 =>
    show (fun vs H2 => ∃ io2 h2 ds, Sim T io2 h2 H2 ∧ Reps T io2 (fz io2 h2 H2) (d :: ds) (.ref a :: vs) ∧ Post T io2 h2 H2 σ W (Rep T) Q (useD (C.mt c mm ds.length) (d :: ds) h2)) vs H2 from ⟨io2, h2, ds, S2, Reps.cons (rd.grow G2) rs, p4⟩)) fun us s2 ⟨vs, H2, I2, rv2, q2⟩ => ⟨I2.kIn, ?_⟩) (plain_cons hp _) (plain_any (plain_tail hp) _ _)
  obtain ⟨io2, h2, ds, S2, rs, p4⟩ := q2
  obtain ⟨sm, es, p5⟩ := use_some p4
  exact run_S (us := .ref a :: us) (vs := .ref a :: vs) (hf _ _ es) hr hG tk I2 (.cons rfl rv2) S2 rs rfl p5
theorem ok_mth0 {k mm : Nat} {o : Expr} {apos pos : Pos} {mo : Env → EM D} (hM : ∀ c, C.hasM c mm = true → MtG X T C k c mm) (hr : Room k X.A) (hG : Gd T X.A) (tk : Takes X W)
    (hb : attributeBase o (T.atn mm) X.env (eval o X.env) = eval o X.env) (hpos : (apos.endLine == pos.line) = true) (ho : PE X o (tE T W mo)) :
    PE X (.Call (.Attribute o (T.atn mm) apos) [] [] pos) (tE T W fun env => bnd (mo env) fun x => bnd (clsOf x) fun c => bnd (guard' (C.hasM c mm)) fun _ => useD (C.mt c mm 0) [x]) := by
  refine ⟨fun pins s σ H Q I ⟨io, h, env, S, r, q⟩ => ?_⟩
  refine PySem.W.methodCall_KW (pl := do return (← importBound o X.env).getD true) (thn (ho.run pins s σ H _ I (step S r q fun io1 h1 d v H1 S1 G1 rd p1 =>
    show (fun v H1 => ∃ io1 h1 d, Sim T io1 h1 H1 ∧ Rep T io1 (fz io1 h1 H1) d v ∧ Post T io1 h1 H1 σ W (Rep T) Q (bnd (clsOf d) (fun c => bnd (guard' (C.hasM c mm)) fun _ => useD (C.mt c mm 0) [d]) h1)) v H1 from ⟨io1, h1, d, S1, rd, p1⟩)) fun u s1 ⟨v, H1, I1, rv, io1, h1, d, S1, rd, p1⟩ => ?_) (meth_tree hb rfl (by decide) hpos)
  refine mth_step (kk := fun c => useD (C.mt c mm 0) [d]) hM I1 rv S1 rd p1 fun c a g ev eu hm hf p3 => ?_
  subst ev eu
  obtain ⟨sm, es, p5⟩ := use_some p3
  exact PySem.W.callWith_K0 (first := [.ref a]) I1.kIn hm.kp (run_S (us := [.ref a]) (vs := [.ref a]) (hf _ _ es) hr hG tk I1 (.cons rfl .nil) S1 (Reps.cons rd Reps.nil) rfl p5)

/-! ### C(..) -/
theorem run_makeS {pins : List (Addr × Obj)} {σ : L2.St} {H : Hp} {sh : Shared} {Q : VK} {us : List Value} {vs : List V} {k c : Nat} {f : Addr} {io : List Addr} {h : LH} {ds : List D} (M : Mk X.K (T.cad c) f) (hF : ∀ n s, C.ini c n = some s → FnS X T k f (n + 1) s) (hr : Room (k + 1) X.A) (hG : Gd T X.A) (tk : Takes X W)
    (I : Inv X pins σ H sh) (r : Vals vs us) (S : Sim T io h H) (rs : Reps T io (fz io h H) ds vs) (p : Post T io h H σ W (Rep T) Q (mkD C c ds h)) :
    wpAny (model X.prog X.w) X.A (call (.ref (T.cad c)) us) (EP X pins σ Q) X.xe sh := by
  have n1 : H sh.heap.objs.size = none := I.hok.fresh (Nat.le_refl _)
  have n2 : H (sh.heap.objs.size + 1) = none := I.hok.fresh (Nat.le_succ _)
  have ne : sh.heap.objs.size + 1 ≠ sh.heap.objs.size := Nat.succ_ne_self _
  have I2 := Inv.made (C := T.cad c) I
  obtain ⟨S1, G1⟩ := S.alloc (.own (sh.heap.objs.size + 1)) n1
  have n3 : upd H sh.heap.objs.size (.own (sh.heap.objs.size + 1)) (sh.heap.objs.size + 1) = none := by rw [upd_ne ne]; exact n2
  have hcell : CellAt T io (fz io h (upd H sh.heap.objs.size (.own (sh.heap.objs.size + 1)))) (upd (upd H sh.heap.objs.size (.own (sh.heap.objs.size + 1))) (sh.heap.objs.size + 1) (.ins (T.cad c) sh.heap.objs.size [])) (sh.heap.objs.size + 1) (.obj c []) :=
    ⟨sh.heap.objs.size, [], by rw [upd_same, List.zip_nil_right], Nat.zero_le _, Reps.nil⟩
  obtain ⟨S2, G2⟩ := S1.push n3 hcell
  have G := G1.trans G2
  have p1 : Post T io h H σ W (Rep T) Q (bnd (useD (C.ini c ds.length) (.ref h.length :: ds)) (fun u => match u with
    | .non => ret (.ref h.length)
    | _ => stk) (h ++ [some (.obj c [])])) := p
  have p2 := Post.bind (R := Rep T) (p1.from G)
  obtain ⟨sm, es, p3⟩ := use_some p2
  have hx : io.length = h.length := S.len
  have r2 : Vals (V.ref (sh.heap.objs.size + 1) :: vs) (Value.ref (sh.heap.objs.size + 1) :: us) := .cons rfl r
  have rsx : Reps T (io ++ [sh.heap.objs.size + 1]) (fz (io ++ [sh.heap.objs.size + 1]) (h ++ [some (.obj c [])]) (upd (upd H sh.heap.objs.size (.own (sh.heap.objs.size + 1))) (sh.heap.objs.size + 1) (.ins (T.cad c) sh.heap.objs.size []))) (.ref h.length :: ds) (.ref (sh.heap.objs.size + 1) :: vs) := by
    refine Reps.cons ?_ (rs.grow G)
    unfold Rep
    exact ⟨_, rfl, by rw [← hx]; simp⟩
  refine wpAny_call (make_map (f := f) I.kIn M.makes M.init (beq_iff_eq.mp M.fn) (codeAny_mono (hF _ _ es _ X.stack _ _ (Value.ref (sh.heap.objs.size + 1) :: us) _ (fun v H2 => v = .non ∧ Q (.ref (sh.heap.objs.size + 1)) H2) (fun cc d H' => W cc d σ H') (hr.make (T.cad c) us []) (hG.under _ _ _)
    (I2.env0.make (T.cad c) us []) r2 ⟨_, _, _, S2, rsx, rfl, ?_⟩) fun r s' hq' => ?_))
  · refine (p3.mono fun v H3 z => ?_).sig fun _ _ _ z => z
    obtain ⟨a, io3, h3, S3, G3, ra, p4⟩ := z
    cases a <;> try exact False.elim p4
    unfold Rep at ra
    refine ⟨ra, Post.here p4 S3 ?_⟩
    unfold Rep
    refine ⟨_, rfl, G3.pre.get ?_⟩
    rw [← hx]
    simp
  · cases r with
    | error e => exact tk e s' (XE.of_call I2 (fun _ _ _ z => z) hq')
    | ok fl =>
      cases fl with
      | ret u =>
        obtain ⟨v, H', I3, rv, ev, q3⟩ := I2.after hq'
        subst ev
        exact ⟨rv, ⟨V.ref (sh.heap.objs.size + 1), H', I3, rfl, q3⟩⟩
      | next => exact False.elim hq'
      | brk => exact False.elim hq'
      | cont => exact False.elim hq'
/-- .. and frozen at once, or not -/
theorem run_makeZ {pins : List (Addr × Obj)} {σ : L2.St} {H : Hp} {sh : Shared} {Q : VK} {us : List Value} {vs : List V} {k c : Nat} {f : Addr} {io : List Addr} {h : LH} {ds : List D} {g : D → EM D} (hg : ∀ io h H d v Q, Sim T io h H → Rep T io (fz io h H) d v → Post T io h H σ W (Rep T) Q (g d h) → Q v H)
    (M : Mk X.K (T.cad c) f) (hF : ∀ n s, C.ini c n = some s → FnS X T k f (n + 1) s) (hr : Room (k + 1) X.A) (hG : Gd T X.A) (tk : Takes X W)
    (I : Inv X pins σ H sh) (r : Vals vs us) (S : Sim T io h H) (rs : Reps T io (fz io h H) ds vs) (p : Post T io h H σ W (Rep T) Q (bnd (mkD C c ds) g h)) :
    wpAny (model X.prog X.w) X.A (call (.ref (T.cad c)) us) (EP X pins σ Q) X.xe sh := by
  refine thn (run_makeS M hF hr hG tk I r S rs (Post.bind (R := Rep T) p)) fun u s' ⟨v, H', I', rv, q⟩ => ?_
  obtain ⟨d, io1, h1, S1, _, rd, p1⟩ := q
  exact ⟨v, H', I', rv, hg _ _ _ _ _ _ S1 rd p1⟩
theorem g_ret {σ : L2.St} : ∀ (io : List Addr) (h : LH) (H : Hp) (d : D) (v : V) (Q : VK), Sim T io h H → Rep T io (fz io h H) d v → Post T io h H σ W (Rep T) Q (ret d h) → Q v H := fun _ _ _ _ _ _ S r p => Post.here p S r
theorem g_frz {σ : L2.St} : ∀ (io : List Addr) (h : LH) (H : Hp) (d : D) (v : V) (Q : VK), Sim T io h H → Rep T io (fz io h H) d v → Post T io h H σ W (Rep T) Q (frzC d h) → Q v H := fun _ _ _ _ _ _ S r p => frzC_ok S r p
theorem ok_mkg {k c : Nat} {f : Addr} {x : Str} {p pos : Pos} {e : Expr} {es : List Expr} {m : Env → EM (List D)} {g : D → EM D} (hgz : ∀ σ io h H d v Q, Sim T io h H → Rep T io (fz io h H) d v → Post T io h H σ W (Rep T) Q (g d h) → Q v H)
    (M : Mk X.K (T.cad c) f) (hF : ∀ n s, C.ini c n = some s → FnS X T k f (n + 1) s) (hr : Room (k + 1) X.A) (hG : Gd T X.A) (tk : Takes X W) (hg : Gl X x) (hm : X.mg x = some (.ref (T.cad c)))
    (hdb : (x == ("__debug__" : Str)) = false) (hp : plainArgs (e :: es) = true) (ha : PA X (e :: es) (tA T W m)) : PE X (.Call (.Name x p) (e :: es) [] pos) (tE T W fun env => bnd (m env) fun vs => bnd (mkD C c vs) g) := by
  refine ⟨fun pins s σ H Q I ⟨io, h, env, S, r, q⟩ => ?_⟩
  refine wpAny_Call_Name_kw (ld_glob I hg hm ?_ hdb)
  refine PySem.W.callWith_K (h₀ := X.base) I.ok.mod.kin M.kp (thn (ha.run pos pins s σ H _ I (step S r q fun io1 h1 ds vs H1 S1 G1 rs p1 => show (fun vs H1 => ∃ io1 h1 ds, Sim T io1 h1 H1 ∧ Reps T io1 (fz io1 h1 H1) ds vs ∧ Post T io1 h1 H1 σ W (Rep T) Q (bnd (mkD C c ds) g h1)) vs H1 from ⟨io1, h1, ds, S1, rs, p1⟩)) fun us s1 ⟨vs, H1, I1, rv, q1⟩ => ⟨I1.kIn, ?_⟩) (plain_cons hp _) (plain_any (plain_tail hp) _ _)
  obtain ⟨io1, h1, ds, S1, rs, p1⟩ := q1
  exact run_makeZ (hgz σ) M hF hr hG tk I1 rv S1 rs p1
theorem ok_mkg0 {k c : Nat} {f : Addr} {x : Str} {p pos : Pos} {g : D → EM D} (hgz : ∀ σ io h H d v Q, Sim T io h H → Rep T io (fz io h H) d v → Post T io h H σ W (Rep T) Q (g d h) → Q v H)
    (M : Mk X.K (T.cad c) f) (hF : ∀ n s, C.ini c n = some s → FnS X T k f (n + 1) s) (hr : Room (k + 1) X.A) (hG : Gd T X.A) (tk : Takes X W) (hg : Gl X x) (hm : X.mg x = some (.ref (T.cad c)))
    (hdb : (x == ("__debug__" : Str)) = false) : PE X (.Call (.Name x p) [] [] pos) (tE T W fun env => bnd (mkD C c []) g) := by
  refine ⟨fun pins s σ H Q I ⟨io, h, env, S, r, q⟩ => ?_⟩
  refine wpAny_Call_Name_kw (ld_glob I hg hm ?_ hdb)
  exact PySem.W.callWith_K0 I.kIn M.kp (run_makeZ (us := []) (hgz σ) M hF hr hG tk I .nil S Reps.nil q)
end
end SX
end
section
set_option Elab.async false
set_option linter.all false
set_option maxRecDepth 100000
set_option maxHeartbeats 1000000
/-! SX9: attributes and the program's own operators. -/
namespace SX
open PySem PySem.Spec PyProof.Rows
section
open PySem.W
variable {prog : Program} {w : World} {A : Around} {E : Value → Shared → Prop} {s : Shared} {K : Frag} {x C f : Addr} {ox : Obj} {od : Option Obj} {b : Value}
theorem ne_entry (X : K.In s.heap) (I : InstAt s.heap x ox C od) (hs : findIn K (.ref C) "__eq__" = some (some (.ref f))) (hf : isFn K (.ref f) = true) (hu : A.units < cLine) {Q : Fin → Shared → Prop}
    (hcall : wpAny (model prog w) A (call (.ref f) [.ref x, b]) (fun v s' => ∃ k, v = .bool k ∧ Q (.done (.ret (.bool (!k)))) s') E s) :
    wpAny (model prog w) A (Builtin.«object.__ne__» ⟨[.ref x, b], []⟩) Q E s := by
  unfold Builtin.«object.__ne__»
  repeat (first
    | with_reducible refine wpAny_cRoomFor hu ?_
    | (refine wpAny_bind (m := callSpecialIfBound? (.ref x) (Str.ofString "__eq__") [b])
        (ifBound_K X I hs hf (wpAny_mono hcall (fun r s' hr => by
          obtain ⟨k, rfl, hq⟩ := hr
          repeat (first | exact hq | exact wpAny_pure hq | exact wpAny_truthy_bool hq | (refine wpAny_bind (m := truthy (.bool _)) (wpAny_truthy_bool ?_)) | wp_step)) fun _ _ e => e)))
    | wp_step)
theorem ne_bind (self : Value) : bindSpecial (.builtin "object.__ne__") self = pure (.builtin "object.__ne__", [self]) := F.cmp_object.ne.bind self
theorem ifBoundB_K {M : Model} {id : String} {name : Str} {args : List Value} {Q : Option Value → Shared → Prop} (X : K.In s.heap) (I : InstAt s.heap x ox C od) (hs : findIn K (.ref C) name = some (some (.builtin id)))
    (hb : ∀ self, bindSpecial (.builtin id) self = pure (.builtin id, [self]))
    (h : wpAny M A (call (.builtin id) (.ref x :: args)) (fun v => Q (some v)) E s) : wpAny M A (callSpecialIfBound? (.ref x) name args) Q E s := by
  simp only [callSpecialIfBound?, bindSpecialIfBound?]
  refine wpAny_holding (wpAny_bind (wpAny_bind (wpAny_bind (I.type.here ((looks_findIn X hs).here ?_)))))
  simp only [hb]
  refine wpAny_bind (wpAny_askSetting (wpAny_ite ?_))
  have fin : wpAny M A (call (.builtin id) ([.ref x] ++ args) >>= fun v => pure (some v)) Q E s := wpAny_bind (wpAny_mono h (fun v s' h' => wpAny_pure h') fun _ _ h' => h')
  split
  · exact wpAny_bind (wpAny_pure (wpAny_pure (by exact fin)))
  · exact wpAny_tryCatch (wpAny_bind (wpAny_pure (wpAny_pure (by exact fin))))
theorem check_K {M : Model} {id owner n : String} {rest : List Value} {Q : Unit → Shared → Prop} (hk : builtinKind id = some .slot) (hs : splitId id = some (owner, n))
    (ha : argsOk id ⟨.ref x :: rest, []⟩) (ho : subIn K (.ref C) (.type owner) = some true) (X : K.In s.heap) (I : InstAt s.heap x ox C od) (hq : Q () s) :
    wpAny M A (checkBuiltinCall id ⟨.ref x :: rest, []⟩) Q E s := by
  simp only [checkBuiltinCall, hk, hs]
  refine wpAny_bind ?_
  unfold isInstance
  refine wpAny_bind (I.type.here ((looks_subIn X ho).here ?_))
  cases hsig : Manifest.signature? id with
  | none => exact wpAny_pure hq
  | some sig =>
    simp only [argsOk, hsig] at ha
    have h2 : Bind.checkArgs id sig ⟨.ref x :: rest, []⟩ = pure () := ha
    show wpAny M A (Bind.checkArgs id sig ⟨.ref x :: rest, []⟩) Q E _
    rw [h2]; exact wpAny_pure hq
theorem ne_K {Q : Value → Shared → Prop} (hu : A.units + 1 < cLine) (X : K.In s.heap) (I : InstAt s.heap x ox C od) (hb : Looks (model prog w) s.heap (typeOf b) (.ref C)) (hn : findIn K (.ref C) "__ne__" = some (some (.builtin "object.__ne__")))
    (ho : subIn K (.ref C) (.type "object") = some true) (hs : findIn K (.ref C) "__eq__" = some (some (.ref f))) (hf : isFn K (.ref f) = true)
    (h : wpAny (model prog w) A.in1 (call (.ref f) [.ref x, b]) (fun v s' => ∃ k, v = .bool k ∧ Q (.bool (!k)) s') E s) : wpAny (model prog w) A (richCompare .NotEq (.ref x) b) Q E s := by
  have body : wpAny (model prog w) A (call (.builtin "object.__ne__") [.ref x, b]) (fun v s' => ∃ k, v = .bool k ∧ Q (.bool k) s') E s :=
    wpAny_call (codeAny_call_builtin F.cmp_object.ne.plain F.cmpEntry_ne (check_K F.cmpKind_ne F.cmpSplit_ne (F.cmpArgs_ne _ _) ho X I
      (ne_entry (A := A.in1) X I hs hf hu (wpAny_mono h (fun v s' hv => by
        obtain ⟨k, rfl, hq⟩ := hv
        exact ⟨k, rfl, _, rfl, hq⟩) fun _ _ e => e))))
  have one : wpAny (model prog w) A (tryCompare (.ref x) "__ne__" b) (fun r s' => ∃ v, r = some v ∧ Q v s') E s := by
    unfold tryCompare
    refine wpAny_bind (ifBoundB_K X I hn ne_bind (wpAny_mono body (fun v s' hv => ?_) fun _ _ e => e))
    obtain ⟨k, rfl, hq⟩ := hv
    exact wpAny_pure ⟨_, rfl, hq⟩
  unfold richCompare
  simp only [oneThing_ref]
  refine wpAny_holding (wpAny_bind (wpAny_cRoomFor (Nat.lt_of_succ_lt hu) ?_))
  rw [cmpInfo_NotEq]
  dsimp only
  refine wpAny_bind (I.type.here (wpAny_bind (hb.here ?_)))
  rw [show (Value.ref C != Value.ref C) = false from by simp]
  simp only [Bool.false_eq_true, if_false]
  refine wpAny_bind (wpAny_pure ?_)
  simp only [Bool.false_eq_true, if_false]
  refine wpAny_bind (wpAny_mono one (fun r s' z => ?_) fun _ _ e => e)
  obtain ⟨v, rfl, hq⟩ := z
  exact wpAny_pure hq
end
end SX
end
section
set_option Elab.async false
set_option linter.all false
set_option maxRecDepth 100000
set_option maxHeartbeats 1000000
/-! SX10: own operators, attributes, as the evaluator has them. -/
namespace SX
open PySem PySem.Spec PyProof.Rows L2
section
variable {X : Cx} {T : Tab} {W : WX} {C : Ctx} {k : Nat}
/-- a call somewhere below -/
theorem run_SA {pins : List (Addr × Obj)} {σ : L2.St} {H : Hp} {sh : Shared} {Q : VK} {us : List Value} {vs : List V} {n : Nat} {f : Addr} {s : Sem} {io : List Addr} {h : LH} {ds : List D} {A : Around} (F : FnS X T k f n s) (hr : Room k A) (hG : Gd T A) (tk : Takes X W)
    (e0 : Env0 X.prog X.w X.K X.mg X.base A X.stack sh H) (I : Inv X pins σ H sh) (r : Vals vs us) (S : Sim T io h H) (rs : Reps T io (fz io h H) ds vs) (hn : ds.length = n) (p : Post T io h H σ W (Rep T) Q (s ds h)) :
    wpAny (model X.prog X.w) A (call (.ref f) us) (EP X pins σ Q) X.xe sh := by
  refine wpAny_call (codeAny_mono (F A X.stack sh H us vs Q (fun c d H' => W c d σ H') hr hG e0 r ⟨io, h, ds, S, rs, hn, p.sig fun _ _ _ z => z⟩) fun r s' hq => ?_)
  cases r with
  | error e => exact tk e s' (XE.of_call I (fun _ _ _ z => z) hq)
  | ok fl =>
    cases fl with
    | ret u => exact I.after hq
    | next => exact False.elim hq
    | brk => exact False.elim hq
    | cont => exact False.elim hq
theorem run_S0 {pins : List (Addr × Obj)} {σ σ' : L2.St} {H : Hp} {sh : Shared} {Q : VK} {us : List Value} {vs : List V} {n : Nat} {f : Addr} {s : Sem} {io : List Addr} {h : LH} {ds : List D} {A : Around} {E' : Value → Shared → Prop} (F : FnS X T k f n s) (hr : Room k A) (hG : Gd T A)
    (e0 : Env0 X.prog X.w X.K X.mg X.base A X.stack sh H) (I : Inv X pins σ H sh) (r : Vals vs us) (S : Sim T io h H) (rs : Reps T io (fz io h H) ds vs) (hn : ds.length = n) (p : Post T io h H σ' NoW (Rep T) Q (s ds h)) :
    wpAny (model X.prog X.w) A (call (.ref f) us) (EP X pins σ Q) E' sh := wpAny_call (code_S0 F hr hG e0 I r S rs hn p fun u s' z => z)
/-- what a class's own operator must have -/
structure DnG (X : Cx) (T : Tab) (C : Ctx) (k c : Nat) (nm : Str) (m n : Nat) : Prop where
  ok : ∃ f, PySem.W.findIn X.K (.ref (T.cad c)) nm = some (some (.ref f)) ∧ PySem.W.isFn X.K (.ref f) = true ∧ PySem.W.fnIn X.K f = true ∧ ∀ s, C.mt c m n = some s → FnS X T k f (n + 1) s
structure NeG (X : Cx) (T : Tab) (c : Nat) : Prop where
  ne : PySem.W.findIn X.K (.ref (T.cad c)) "__ne__" = some (some (.builtin "object.__ne__"))
  ob : PySem.W.subIn X.K (.ref (T.cad c)) (.type "object") = some true
  sf : PySem.W.selfFirst X.K (T.cad c) = true
abbrev RV : List Addr → Hp → Bool → V → Prop := fun _ _ b v => v = .bl b
theorem inst_at {pins : List (Addr × Obj)} {σ : L2.St} {H : Hp} {sh : Shared} {a Cc dx : Addr} {fs : List (Str × V)} (I : Inv X pins σ H sh) (e : H a = some (.ins Cc dx fs)) : ∃ ox od, PySem.W.InstAt sh.heap a ox Cc od := by
  obtain ⟨mA, J, _⟩ := ins_get I.hok e
  obtain ⟨od, J, _⟩ := J.look
  exact ⟨_, _, J⟩
theorem isObj_of {c : Nat} {d : D} (h : d.isObj c = true) : ∃ fs, d = .obj c fs := by
  cases d <;> first | exact absurd h Bool.false_ne_true | skip
  rename_i c' fs
  have e : c' = c := by
    have h' : (c' == c) = true := h
    exact eq_of_beq h'
  exact ⟨fs, by rw [e]⟩
theorem noCmp {v : V} {u : Value} (r : RelV v u) {Q : Value → Shared → Prop} {s : Shared} (q : Q u s) : PySem.W.CmpBack Q u s := by
  cases u <;> first | exact q | skip
  cases v <;> first | (cases (show Value.notImplemented = _ from r); done) | (obtain ⟨_, e⟩ := (show ∃ t, Value.notImplemented = _ from r); cases e)
theorem or_cmpX (hT : T.K = X.K) (hu : X.A.units + 65 < cLine) (hr : Room (k + 1) X.A) (hG : Gd T X.A) (hE : ∀ c s, C.mt c aEq 1 = some s → DnG X T C k c "__eq__" aEq 1 ∧ NeG X T c) (o : COp) :
    OpR X (compareOp (copOf o)) (fun x y H Q => ∃ io h dx dy, Sim T io h H ∧ Rep T io (fz io h H) dx x ∧ Rep T io (fz io h H) dy y ∧ Post T io h H [] NoW RV Q (cmpX C o dx dy h)) := by
  intro pins s σ H x y v u Q I rx ry q
  obtain ⟨io, h, dx, dy, S, rd, re, p⟩ := q
  have plain : ∀ {o : COp}, Post T io h H [] NoW RV Q (ofO (cmpD o dx dy) h) → wpAny (model X.prog X.w) X.A (compareOp (copOf o) v u) (EP X pins σ Q) X.xe s := fun {o} p => by
    obtain ⟨b, e, p⟩ := Post.ofO' p
    exact or_cmp hT hu o pins s σ H x y v u Q I rx ry ⟨io, h, dx, dy, b, S, rd, re, e, Post.here p S rfl⟩
  have own : ∀ {c fs} {kk : Bool → EM Bool} {σ' : L2.St} {β : Type} {R : List Addr → Hp → Bool → β → Prop} {Q' : β → Hp → Prop}, dx = .obj c fs → Post T io h H σ' NoW R Q' (bnd (eqX C c (.obj c fs) dy) kk h) → ∃ a a' ox od f, v = .ref a ∧ u = .ref a' ∧
      PySem.W.InstAt s.heap a ox (T.cad c) od ∧ PySem.W.Looks (model X.prog X.w) s.heap (typeOf (.ref a')) (.ref (T.cad c)) ∧ NeG X T c ∧ PySem.W.findIn X.K (.ref (T.cad c)) "__eq__" = some (some (.ref f)) ∧ PySem.W.isFn X.K (.ref f) = true ∧
      ∀ (A : Around) (E' : Value → Shared → Prop), Room k A → Gd T A → Env0 X.prog X.w X.K X.mg X.base A X.stack s H →
        wpAny (model X.prog X.w) A (call (.ref f) [.ref a, .ref a']) (EP X pins σ fun w H1 => ∃ b io1 h1, w = .bl b ∧ Sim T io1 h1 H1 ∧ Post T io1 h1 H1 σ' NoW R Q' (kk b h1)) E' s := by
    intro c fs kk σ' β R Q' ed pq
    subst ed
    unfold eqX at pq
    rw [bnd_bnd] at pq
    obtain ⟨g, pq⟩ := Post.guard pq
    obtain ⟨gs, rfl⟩ := isObj_of g
    rw [bnd_bnd] at pq
    have p2 := Post.bind (R := Rep T) pq
    have p3 := noEx_post (σ' := σ') (W' := NoW) p2
    obtain ⟨sm, es, p4⟩ := use_some p3
    obtain ⟨⟨f, hf, hfn, hfi, hF⟩, ne⟩ := hE _ _ es
    have rd' := rd
    have re' := re
    unfold Rep at rd' re'
    obtain ⟨a, dx', xs, rfl, ea, _⟩ := rd'
    obtain ⟨a', dy', ys, rfl, ea', _⟩ := re'
    cases rx
    cases ry
    obtain ⟨ox, od, J⟩ := inst_at I (fz_some ea)
    obtain ⟨ox', od', J'⟩ := inst_at I (fz_some ea')
    refine ⟨a, a', ox, od, f, rfl, rfl, J, J'.type, ne, hf, hfn, fun A E' hrA hGA e0 => ?_⟩
    refine run_S0 (us := [.ref a, .ref a']) (vs := [.ref a, .ref a']) (hF _ es) hrA hGA e0 I (.cons rfl (.cons rfl .nil)) S (Reps.cons rd (Reps.cons re Reps.nil)) rfl (p4.mono fun w H1 z => ?_)
    obtain ⟨d, io1, h1, S1, _, rw1, p5⟩ := z
    cases d <;> try exact False.elim p5
    unfold Rep at rw1
    exact ⟨_, io1, h1, rw1, S1, p5⟩
  have hu0 : X.A.units + 1 < cLine := by omega
  obtain ⟨m, hF⟩ := I.fr
  by_cases ho : ∃ c fs, dx = .obj c fs
  · obtain ⟨c, fs, ed⟩ := ho
    cases o <;> first | (refine plain (o := _) ?_; rw [ed] at p ⊢; exact p; done) | skip
    · rw [ed] at p
      have p' : Post T io h H [] NoW RV Q (bnd (eqX C c (.obj c fs) dy) ret h) := by rw [bnd_pure]; exact p
      obtain ⟨a, a', ox, od, f, rfl, rfl, J, J', ne, hf, hfn, run⟩ := own ed p'
      refine PySem.W.cmp_K (op := .Eq) (tb := .ref (T.cad c)) (Nat.lt_of_succ_lt hu0) hF I.ok.mod.kin J J' (by simp [PySem.W.notFirst]) hf hfn ?_
      refine wpAny_mono (run X.A X.xe (hr.mono (Nat.le_succ _)) hG I.env0) (fun r s' hz => ?_) fun _ _ z => z
      obtain ⟨w, H1, I1, rw1, b, io1, h1, rfl, S1, p1⟩ := hz
      exact noCmp rw1 ⟨_, H1, I1, rw1, Post.here p1 S1 rfl⟩
    · rw [ed] at p
      obtain ⟨a, a', ox, od, f, rfl, rfl, J, J', ne, hf, hfn, run⟩ := own ed p
      refine ne_K hu0 I.kIn J J' ne.ne ne.ob hf hfn ?_
      refine wpAny_mono (run X.A.in1 X.xe hr.in1 hG.in1 I.env0.in1) (fun r s' hz => ?_) fun _ _ z => z
      obtain ⟨w, H1, I1, rw1, b, io1, h1, rfl, S1, p1⟩ := hz
      cases rw1
      exact ⟨b, rfl, ⟨.bl (!b), H1, I1, rfl, Post.here p1 S1 rfl⟩⟩
  · refine plain ?_
    cases o <;> first | exact p | (cases dx <;> first | exact p | exact absurd ⟨_, _, rfl⟩ ho)
end
end SX
end
section
set_option Elab.async false
set_option linter.all false
set_option maxRecDepth 100000
set_option maxHeartbeats 1000000
/-! SX11: .. as rules of expressions. -/
namespace SX
open PySem PySem.Spec PyProof.Rows L2
section
variable {X : Cx} {T : Tab} {W : WX} {C : Ctx} {k : Nat}
theorem calm_eqX (c : Nat) (a b : D) : Calm (eqX C c a b) := by
  refine Calm.bnd (Calm.guard _) fun _ => Calm.bnd (Calm.noEx _) fun d => ?_
  cases d <;> first | exact Calm.stk | exact Calm.ret _
theorem cmpX_cases (o : COp) (x y : D) : (∃ c fs, x = .obj c fs ∧ ((o = .eq ∧ cmpX C o x y = eqX C c x y) ∨ (o = .ne ∧ cmpX C o x y = bnd (eqX C c x y) fun k => ret (!k)))) ∨ cmpX C o x y = ofO (cmpD o x y) := by
  cases o <;> cases x <;> first | exact .inr rfl | exact .inl ⟨_, _, rfl, .inl ⟨rfl, rfl⟩⟩ | exact .inl ⟨_, _, rfl, .inr ⟨rfl, rfl⟩⟩
theorem calm_cmpX (o : COp) (x y : D) : Calm (cmpX C o x y) := by
  rcases cmpX_cases (C := C) o x y with ⟨c, fs, rfl, ⟨_, e⟩ | ⟨_, e⟩⟩ | e
  · rw [e]; exact calm_eqX _ _ _
  · rw [e]; exact Calm.bnd (calm_eqX _ _ _) fun _ => Calm.ret _
  · rw [e]; exact Calm.ofO _
/-- comparisons as the evaluator has them -/
abbrev rCX (T : Tab) (C : Ctx) (o : COp) : R2 := fun x y H Q => ∃ io h dx dy, Sim T io h H ∧ Rep T io (fz io h H) dx x ∧ Rep T io (fz io h H) dy y ∧ Post T io h H [] NoW RV Q (cmpX C o dx dy h)
theorem post_rv {io : List Addr} {h : LH} {H : Hp} {σ : L2.St} {Q : VK} {m : EM Bool} (p : Post T io h H σ W (Rep T) Q (bnd m (fun k => ret (.bl k)) h)) : Post T io h H σ W RV Q (m h) := by
  refine (Post.bind (R := RV) p).mono fun v H' z => ?_
  obtain ⟨b, io1, h1, S1, G, e, p1⟩ := z
  exact Post.here p1 S1 (by rw [e]; exact bl_rep)
theorem ok_cmpX {o : COp} {a b : Expr} {pos : Pos} {ma mb : Env → EM D} (hO : OpR X (compareOp (copOf o)) (rCX T C o)) (hb' : behindInMarks (copOf o) b = false) (ha : PE X a (tE T W ma)) (hb : PE X b (tE T W mb)) :
    PE X (.Compare a [copOf o] [b] pos) (tE T W fun env => bnd (ma env) fun x => bnd (mb env) fun y => bnd (cmpX C o x y) fun k => ret (.bl k)) := by
  refine (pe_cmpR hO ha hb hb').imp fun σ H Q p => ok_op2 (W := W) (ta := tE T W ma) (tb := tE T W mb) (f := fun x y => bnd (cmpX C o x y) fun k => ret (.bl k)) (fun io h H d e x y Q S rd re p => ?_) p
  exact ⟨io, h, d, e, S, rd, re, (calm_cmpX o d e).post (post_rv p)⟩
theorem tt_cmpX {o : COp} {a b : Expr} {pos : Pos} {ma mb : Env → EM D} (hO : OpR X (compareOp (copOf o)) (rCX T C o)) (hb' : behindInMarks (copOf o) b = false) (ha : PE X a (tE T W ma)) (hb : PE X b (tE T W mb)) :
    PT X (.Compare a [copOf o] [b] pos) (tEt T W fun env => bnd (ma env) fun x => bnd (mb env) fun y => bnd (cmpX C o x y) fun k => ret (.bl k)) := by
  refine (pt_cmpR hO ha hb hb').imp fun σ H Q ⟨io, h, env, S, r, p⟩ => ?_
  simp only [bnd_bnd, bnd_ret, truD] at p
  refine step S r p fun io1 h1 d v H1 S1 G1 rd p1 => ?_
  refine step S1 (r.grow G1) p1 fun io2 h2 d2 v2 H2 S2 G2 rd2 p2 => ?_
  refine ⟨io2, h2, d, d2, S2, rd.grow G2, rd2, ?_⟩
  have p3 : Post T io2 h2 H2 σ W RB Q (cmpX C o d d2 h2) := by rw [bnd_pure] at p2; exact p2
  refine (calm_cmpX o d d2).post (W := W) (σ := σ) ?_
  cases q : cmpX C o d d2 h2 with
  | ok b h' =>
    rw [q] at p3
    exact fun io' H' v S G e => ⟨b, e, p3 io' H' b S G rfl⟩
  | ex x h' => rw [q] at p3; exact p3
  | stuck => rw [q] at p3; exact p3
/-! ### + -/
theorem or_addX (hT : T.K = X.K) (hr : Room (k + 1) X.A) (hG : Gd T X.A) (tk : Takes X W) (hA : ∀ c s, C.mt c aAdd 1 = some s → DnG X T C k c "__add__" aAdd 1 ∧ NeG X T c) (o : BOp) :
    ∀ (pins : List (Addr × Obj)) (s : Shared) (σ : L2.St) (H : Hp) (x y : V) (v u : Value) (Q : VK), Inv X pins σ H s → RelV x v → RelV y u → (∃ io h dx dy, Sim T io h H ∧ Rep T io (fz io h H) dx x ∧ Rep T io (fz io h H) dy y ∧ Post T io h H σ W (Rep T) Q (addX C o dx dy h)) →
    wpAny (model X.prog X.w) X.A (binaryOp (opOf o) v u) (EP X pins σ Q) X.xe s := by
  intro pins s σ H x y v u Q I rx ry q
  obtain ⟨io, h, dx, dy, S, rd, re, p⟩ := q
  have plain : Post T io h H σ W (Rep T) Q (binD o dx dy h) → wpAny (model X.prog X.w) X.A (binaryOp (opOf o) v u) (EP X pins σ Q) X.xe s := fun p =>
    or_bin hT o pins s σ H x y v u Q I rx ry ⟨io, h, dx, dy, S, rd, re, (calm_bin o dx dy).post p⟩
  by_cases ho : ∃ c fs, o = .add ∧ dx = .obj c fs
  · obtain ⟨c, fs, rfl, rfl⟩ := ho
    have p : Post T io h H σ W (Rep T) Q (bnd (guard' (dy.isObj c)) (fun _ => useD (C.mt c aAdd 1) [.obj c fs, dy]) h) := p
    obtain ⟨g, p⟩ := Post.guard p
    obtain ⟨gs, rfl⟩ := isObj_of g
    obtain ⟨sm, es, p⟩ := use_some p
    obtain ⟨⟨f, hf, hfn, hfi, hF⟩, ne⟩ := hA _ _ es
    have rd' := rd
    have re' := re
    unfold Rep at rd' re'
    obtain ⟨a, dx', xs, rfl, ea, _⟩ := rd'
    obtain ⟨a', dy', ys, rfl, ea', _⟩ := re'
    cases rx
    cases ry
    obtain ⟨ox, od, J⟩ := inst_at I (fz_some ea)
    obtain ⟨ox', od', J'⟩ := inst_at I (fz_some ea')
    obtain ⟨m, hFr⟩ := I.fr
    refine PySem.W.binop_K (op := .Add) hFr I.ok.mod.kin J J'.type ne.sf hf hfn ?_
    refine wpAny_mono (run_SA (us := [.ref a, .ref a']) (vs := [.ref a, .ref a']) (hF _ es) (hr.mono (Nat.le_succ _)) hG tk I.env0 I (.cons rfl (.cons rfl .nil)) S (Reps.cons rd (Reps.cons re Reps.nil)) rfl p) (fun r s' hz => ?_) fun _ _ z => z
    obtain ⟨w, H1, I1, rw1, q1⟩ := hz
    exact noCmp rw1 ⟨w, H1, I1, rw1, q1⟩
  · refine plain ?_
    cases o <;> first | exact p | (cases dx <;> first | exact p | exact absurd ⟨_, _, rfl, rfl⟩ ho)
theorem ok_addX {o : BOp} {a b : Expr} {pos : Pos} {ma mb : Env → EM D} (hT : T.K = X.K) (hr : Room (k + 1) X.A) (hG : Gd T X.A) (tk : Takes X W) (hA : ∀ c s, C.mt c aAdd 1 = some s → DnG X T C k c "__add__" aAdd 1 ∧ NeG X T c)
    (ha : PE X a (tE T W ma)) (hb : PE X b (tE T W mb)) : PE X (.BinOp a (opOf o) b pos) (tE T W fun env => bnd (ma env) fun x => bnd (mb env) fun y => addX C o x y) := by
  refine ⟨fun pins s σ H Q I ⟨io, h, env, S, r, p⟩ => ?_⟩
  have q : tE T W ma σ H fun x H1 => tE T W mb σ H1 fun y H2 => ∃ io h dx dy, Sim T io h H2 ∧ Rep T io (fz io h H2) dx x ∧ Rep T io (fz io h H2) dy y ∧ Post T io h H2 σ W (Rep T) Q (addX C o dx dy h) := by
    refine step S r p fun io1 h1 d v H1 S1 G1 rd p1 => ?_
    refine step S1 (r.grow G1) p1 fun io2 h2 d2 v2 H2 S2 G2 rd2 p2 => ?_
    exact ⟨io2, h2, d, d2, S2, rd.grow G2, rd2, p2⟩
  exact wpAny_BinOp (binT ha hb I q fun v u s2 x y H2 I2 rx ry q => or_addX hT hr hG tk hA o pins s2 σ H2 x y v u Q I2 rx ry q)
/-! ### len -/
theorem cl_lenX (hT : T.K = X.K) (hr : Room (k + 1) X.A) (hG : Gd T X.A) (hL : ∀ c s, C.mt c aLen 0 = some s → DnG X T C k c "__len__" aLen 0) : CallR X (.builtin "len") (rL T (lenX C .len)) := by
  intro pins s σ H xs us Q I r q
  obtain ⟨io, h, ds, S, rr, p⟩ := q
  by_cases ho : ∃ c fs, ds = [.obj c fs]
  · obtain ⟨c, fs, rfl⟩ := ho
    have p : Post T io h H [] NoW (Rep T) Q (bnd (noEx (useD (C.mt c aLen 0) [.obj c fs])) (fun r => match r with
      | .int n => bnd (guard' (decide (0 ≤ n) && decide (n < 2 ^ 63))) fun _ => ret (.int n)
      | _ => stk) h) := p
    have p2 := Post.bind (R := Rep T) p
    have p3 := noEx_post (σ' := σ) (W' := NoW) p2
    obtain ⟨sm, es, p4⟩ := use_some p3
    obtain ⟨f, hf, hfn, hfi, hF⟩ := hL _ _ es
    obtain ⟨x, rfl, rd⟩ := rr.one
    obtain ⟨u, rfl, ru⟩ := vals1 r
    have rd' := rd
    unfold Rep at rd'
    obtain ⟨a, dx', xs, rfl, ea, _⟩ := rd'
    cases ru
    obtain ⟨ox, od, J⟩ := inst_at I (fz_some ea)
    obtain ⟨m, hFr⟩ := I.fr
    refine PySem.W.len_K hFr I.ok.mod.kin J hf hfn ?_
    refine wpAny_mono (run_S0 (us := [.ref a]) (vs := [.ref a]) (hF _ es) hr.in1 hG.in1 I.env0.in1 I (.cons rfl .nil) S rr rfl p4) (fun r s' hz => ?_) fun _ _ z => z
    obtain ⟨w, H1, I1, rw1, d, io1, h1, S1, G1, rd1, p5⟩ := hz
    cases d <;> try exact False.elim p5
    unfold Rep at rd1
    subst rd1
    obtain ⟨g, p5⟩ := Post.guard p5
    obtain ⟨t, rfl⟩ := rw1
    have g' := Bool.and_eq_true_iff.mp g
    exact ⟨⟨of_decide_eq_true g'.1, of_decide_eq_true g'.2⟩, .int _, H1, I1.tok _, ⟨_, rfl⟩, Post.here p5 S1 int_rep⟩
  · refine cl_len hT pins s σ H xs us Q I r ⟨io, h, ds, S, rr, ?_⟩
    match ds, p, ho with
    | [], p, _ => exact p
    | [d], p, ho => cases d <;> first | exact p | exact absurd ⟨_, _, rfl⟩ ho
    | d :: _ :: _, p, _ => cases d <;> exact p
/-! ### x[i] -/
theorem plain_ix {b : Expr} (h : (match b with
    | .Slice _ _ _ _ => false
    | _ => true) = true) : (∀ o i, subscripted b false o i = operate [o, i] (getItem o i)) ∧ ∀ o i, subscripted b true o i = runValue (.builtin "lifetime.subscript" ⟨[o, i], []⟩) := by
  cases b <;> first | exact absurd h Bool.false_ne_true | exact ⟨fun _ _ => rfl, fun _ _ => rfl⟩
theorem ok_idxX {a b : Expr} {pos : Pos} {ma mb : Env → EM D} (hT : T.K = X.K) (hr : Room (k + 1) X.A) (hG : Gd T X.A) (tk : Takes X W) (hI : ∀ c s, C.mt c aItem 1 = some s → DnG X T C k c "__getitem__" aItem 1)
    (ha : PE X a (tE T W ma)) (hb : PE X b (tE T W mb)) (hs : (∀ o i, subscripted b false o i = operate [o, i] (getItem o i)) ∧ ∀ o i, subscripted b true o i = runValue (.builtin "lifetime.subscript" ⟨[o, i], []⟩)) :
    PE X (.Subscript a b pos) (tE T W fun env => bnd (ma env) fun x => bnd (mb env) fun y => idxX C x y) := by
  refine ⟨fun pins s σ H Q I ⟨io, h, env, S, r, p⟩ => ?_⟩
  have q : tE T W ma σ H fun x H1 => tE T W mb σ H1 fun y H2 => ∃ io h dx dy, Sim T io h H2 ∧ Rep T io (fz io h H2) dx x ∧ Rep T io (fz io h H2) dy y ∧ Post T io h H2 σ W (Rep T) Q (idxX C dx dy h) := by
    refine step S r p fun io1 h1 d v H1 S1 G1 rd p1 => ?_
    refine step S1 (r.grow G1) p1 fun io2 h2 d2 v2 H2 S2 G2 rd2 p2 => ?_
    exact ⟨io2, h2, d, d2, S2, rd.grow G2, rd2, p2⟩
  refine Subscript_ (binT ha hb I q fun v u s2 x y H2 I2 rx ry q => ?_)
  obtain ⟨io2, h2, dx, dy, S2, rd, re, p2⟩ := q
  by_cases ho : ∃ c fs, dx = .obj c fs
  · obtain ⟨c, fs, rfl⟩ := ho
    obtain ⟨sm, es, p3⟩ := use_some (show Post T io2 h2 H2 σ W (Rep T) Q (useD (C.mt c aItem 1) [.obj c fs, dy] h2) from p2)
    obtain ⟨f, hf, hfn, hfi, hF⟩ := hI _ _ es
    have rd' := rd
    unfold Rep at rd'
    obtain ⟨a', dx', xs, rfl, ea, _⟩ := rd'
    cases rx
    obtain ⟨ox, od, J⟩ := inst_at I2 (fz_some ea)
    obtain ⟨m, hFr⟩ := I2.fr
    refine PySem.W.sub_K hFr I2.ok.mod.kin J hf hfi hfn ?_ (hs.2 _ _)
    exact run_SA (us := [.ref a', u]) (vs := [.ref a', y]) (hF _ es) hr.in1 hG.in1 tk I2.env0.in1 I2 (.cons rfl (.cons ry .nil)) S2 (Reps.cons rd (Reps.cons re Reps.nil)) rfl p3
  · have p3 : Post T io2 h2 H2 σ W (Rep T) Q (idxD dx dy h2) := by cases dx <;> first | exact p2 | exact absurd ⟨_, _, rfl⟩ ho
    exact ix_any hT (by have := hr.un; omega) a b pins s2 σ H2 x y v u Q I2 rx ry ⟨io2, h2, dx, dy, S2, rd, re, (calm_idx dx dy).post p3⟩ (hs.1 _ _)
/-! ### e.f -/
structure AtG (X : Cx) (T : Tab) (C : Ctx) (k f : Nat) : Prop where
  fld : ∀ c j, (T.fld c).idxOf? f = some j → Cls X.K (T.cad c) ∧ NoAttr X.K (T.cad c) (T.atn f) ∧ (T.names c).Nodup
  pr : ∀ c s, C.pr c f = some s → ∃ p g, Cls X.K (T.cad c) ∧ PropOf X.K (T.cad c) (T.atn f) p g ∧ FnS X T k g 1 s
theorem names_at {c f j : Nat} (h : (T.fld c).idxOf? f = some j) : (T.names c)[j]? = some (T.atn f) := by
  have e : (T.fld c)[j]? = some f := by
    rw [List.idxOf?_eq_some_iff] at h
    obtain ⟨hl, e, _⟩ := h
    rw [List.getElem?_eq_getElem hl, e]
  unfold Tab.names
  rw [List.getElem?_map, e]
  rfl
end
end SX
end
section
set_option Elab.async false
set_option linter.all false
set_option maxRecDepth 100000
set_option maxHeartbeats 1000000
/-! SX12: attributes; built-in functions and methods by name. -/
namespace SX
open PySem PySem.Spec PyProof.Rows L2
section
variable {X : Cx} {T : Tab} {W : WX} {C : Ctx} {k : Nat}
theorem attD_ok {f c : Nat} {a dx : Addr} {xs : List V} {fs : List D} {d : D} {io : List Addr} {h : LH} {H : Hp} {pins : List (Addr × Obj)} {σ : L2.St} {s : Shared} {Q : VK} {b : Bool} (hf : C.flds = T.fld) (A : AtG X T C k f) (hr : Room (k + 1) X.A) (hG : Gd T X.A)
    (I : Inv X pins σ H s) (S : Sim T io h H) (rd : Rep T io (fz io h H) d (.ref a)) (ea : H a = some (.ins (T.cad c) dx ((T.names c).zip xs))) (rs : Reps T io (fz io h H) fs xs)
    (p : Post T io h H σ W (Rep T) Q (attD C f d c fs h)) : wpAny (model X.prog X.w) X.A (getAttr (.ref a) (T.atn f) b) (EP X pins σ Q) X.xe s := by
  unfold attD at p
  rw [hf] at p
  cases e : (T.fld c).idxOf? f with
  | some j =>
    rw [e] at p
    obtain ⟨d', ed, p⟩ := Post.ofO' p
    obtain ⟨x, ex, rx⟩ := rs.get ed
    obtain ⟨cl, na, nd⟩ := A.fld c j e
    refine getattr_ok I ea cl na (lookup_in nd (names_at e) ex) fun u s' I' ru => ⟨x, H, I', ru, Post.here p S rx⟩
  | none =>
    rw [e] at p
    have p2 := noEx_post (σ' := σ) (W' := NoW) p
    obtain ⟨sm, es, p3⟩ := use_some p2
    obtain ⟨q, g, cl, hp, F⟩ := A.pr c sm es
    obtain ⟨mA, O, _, _, _, _⟩ := ins_get I.hok ea
    obtain ⟨od, J, _⟩ := O.look
    obtain ⟨rest, hrec⟩ := hp.rec_
    have I1 := I.tok (s.toks + 1)
    have hc : (PySem.W.clsIn X.K (T.cad c)).isSome = true := by
      obtain ⟨cd, hc, _⟩ := PySem.W.any_some cl.hd
      rw [hc]
      rfl
    refine PySem.W.get_bind I.kIn J (PySem.W.plainGet_of (cl.get (T.atn f))).1 (PySem.W.findObj_data hc hp.at_ hp.get hp.tak) (PySem.W.plainGet_of (cl.get (T.atn f))).2 (wpAny_call (PySem.W.prop_get (s := { s with toks := s.toks + 1 }) I.kIn hrec ?_))
    refine code_S0 (us := [.ref a]) (vs := [.ref a]) (A := X.A.in1) F hr.in1 hG.in1 I1.env0.in1 I1 (.cons rfl .nil) S (Reps.cons rd Reps.nil) rfl p3 fun u s' hz => ?_
    obtain ⟨v, H', I3, rv, q3⟩ := hz
    show wpAny _ _ (handedOut u) _ _ _
    rw [PySem.W.handedOut_of (handed_of rv)]
    exact wpAny_pure ⟨v, H', I3, rv, q3⟩
theorem ok_att {f : Nat} {e : Expr} {pos : Pos} {m : Env → EM D} (hf : C.flds = T.fld) (A : AtG X T C k f) (hr : Room (k + 1) X.A) (hG : Gd T X.A) (hab : attributeBase e (T.atn f) X.env (eval e X.env) = eval e X.env) (he : PE X e (tE T W m)) :
    PE X (.Attribute e (T.atn f) pos) (tE T W fun env => bnd (m env) fun x => attX C f x) := by
  refine ⟨fun pins s σ H Q I ⟨io, h, env, S, r, p⟩ => ?_⟩
  refine attr_of hab (thn (he.run pins s σ H _ I (step S r p fun io1 h1 d v H1 S1 G1 rd p1 =>
    show (fun v H1 => ∃ io1 h1 d, Sim T io1 h1 H1 ∧ Rep T io1 (fz io1 h1 H1) d v ∧ Post T io1 h1 H1 σ W (Rep T) Q (attX C f d h1)) v H1 from ⟨io1, h1, d, S1, rd, p1⟩)) fun u s1 ⟨v, H1, I1, rv, io1, h1, d, S1, rd, p1⟩ => ?_)
  cases d <;> try exact False.elim p1
  case obj c fs =>
    have rd' := rd
    unfold Rep at rd'
    obtain ⟨a, dx, xs, rfl, ea, rs⟩ := rd'
    obtain rfl : u = Value.ref a := rv
    exact attD_ok hf A hr hG I1 S1 rd (fz_some ea) rs p1
  case ref n =>
    have rd' := rd
    unfold Rep at rd'
    obtain ⟨a, rfl, ia⟩ := rd'
    obtain rfl : u = Value.ref a := rv
    obtain ⟨cl, ec, p2⟩ := Post.getC p1
    cases cl <;> try exact False.elim p2
    obtain ⟨dx, xs, ea, _, rs⟩ := S1.cell n a _ ia ec
    exact attD_ok hf A hr hG I1 S1 rd ea rs p2
/-! ### e.f = .. -/
theorem putF_zip : ∀ (ns : List Str) (xs : List V) (j : Nat) (x : Str) (v : V), ns.Nodup → ns[j]? = some x → j ≤ xs.length → xs.length ≤ ns.length → putF x v (ns.zip xs) = ns.zip (xs.take j ++ v :: xs.drop (j + 1))
  | [], _, j, _, _, _, e, _, _ => by simp at e
  | n :: ns, [], j, x, v, nd, e, hj, _ => by
    have hj' : j = 0 := by simpa using hj
    subst hj'
    have e' : n = x := Option.some.inj e
    subst e'
    show putF n v [] = _
    simp [putF]
  | n :: ns, y :: xs, 0, x, v, nd, e, hj, hl => by
    have e' : n = x := Option.some.inj e
    subst e'
    show putF n v ((n, y) :: ns.zip xs) = _
    simp [putF]
  | n :: ns, y :: xs, j + 1, x, v, nd, e, hj, hl => by
    have e' : ns[j]? = some x := by simpa using e
    have hx : ¬ n = x := fun z => (List.nodup_cons.mp nd).1 (by rw [z]; exact List.mem_of_getElem? e')
    show putF x v ((n, y) :: ns.zip xs) = _
    have ih := putF_zip ns xs j x v (List.nodup_cons.mp nd).2 e' (by simpa using hj) (by simpa using hl)
    show (if n = x then (n, v) :: ns.zip xs else (n, y) :: putF x v (ns.zip xs)) = _
    rw [if_neg hx, ih]
    simp
theorem Reps.put {io : List Addr} {F : Hp} {fs : List D} {xs : List V} {d : D} {v : V} (r : Reps T io F fs xs) (h : Rep T io F d v) (j : Nat) : Reps T io F (fs.take j ++ d :: fs.drop (j + 1)) (xs.take j ++ v :: xs.drop (j + 1)) :=
  (r.take j).append (Reps.cons h (r.drop (j + 1)))
/-- o.f = d, by values -/
theorem setA_ok {f : Nat} {o d : D} {y v : V} {yv u : Value} {io : List Addr} {h : LH} {H : Hp} {pins : List (Addr × Obj)} {σ : L2.St} {s : Shared} {Q : Hp → Prop} (hf : C.flds = T.fld) (A : AtG X T C k f) (hz : ∀ c, (T.fld c).length ≤ 100)
    (I : Inv X pins σ H s) (S : Sim T io h H) (ro : Rep T io (fz io h H) o y) (ry : RelV y yv) (rd : Rep T io (fz io h H) d v) (ru : RelV v u)
    (p : Post T io h H σ W (fun _ _ (_ _ : Unit) => True) (fun _ H' => Q H') (setA C o f d h)) : wpAny (model X.prog X.w) X.A (setAttr yv (T.atn f) u) (fun _ s' => ∃ H', Inv X pins σ H' s' ∧ Q H') X.xe s := by
  cases o <;> try exact False.elim p
  rename_i n
  unfold Rep at ro
  obtain ⟨a, rfl, ia⟩ := ro
  obtain rfl : yv = Value.ref a := ry
  obtain ⟨cl, ec, p2⟩ := Post.getC p
  cases cl <;> try exact False.elim p2
  rename_i c fs
  obtain ⟨dx, xs, ea, hl, rs⟩ := S.cell n a _ ia ec
  have p2 : Post T io h H σ W (fun _ _ (_ _ : Unit) => True) (fun _ H' => Q H') ((match (C.flds c).idxOf? f with
    | some j => bnd (guard' (decide (j ≤ fs.length))) fun _ => setC n (.obj c (fs.take j ++ d :: fs.drop (j + 1)))
    | none => stk : EM Unit) h) := p2
  rw [hf] at p2
  cases e : (T.fld c).idxOf? f with
  | none => rw [e] at p2; exact False.elim p2
  | some j =>
    rw [e] at p2
    obtain ⟨g, p3⟩ := Post.guard p2
    obtain ⟨cl, na, nd⟩ := A.fld c j e
    have hj : j ≤ fs.length := of_decide_eq_true g
    have hx := rs.length
    have hnl : (T.names c).length = (T.fld c).length := List.length_map ..
    have hjl : j < (T.fld c).length := by
      rw [List.idxOf?_eq_some_iff] at e
      exact e.choose
    refine setattr_ok I ea cl na (by rw [List.length_zip]; have := hz c; omega) ru fun s' I' => ⟨_, I', ?_⟩
    rw [putF_zip _ _ j _ _ nd (names_at e) (by omega) (by omega)]
    have hc : CellAt T io (fz io h (upd H a (.ins (T.cad c) dx ((T.names c).zip (xs.take j ++ v :: xs.drop (j + 1)))))) (upd H a (.ins (T.cad c) dx ((T.names c).zip (xs.take j ++ v :: xs.drop (j + 1))))) a (.obj c (fs.take j ++ d :: fs.drop (j + 1))) := by
      have la : Live io h a := ⟨n, _, ia, ec⟩
      have ef : fz io h (upd H a (.ins (T.cad c) dx ((T.names c).zip (xs.take j ++ v :: xs.drop (j + 1))))) = fz io h H := by
        funext b
        by_cases l : Live io h b
        · rw [fz_live l, fz_live l]
        · rw [fz_of l, fz_of l, upd_ne (fun q => l (by rw [q]; exact la))]
      rw [ef]
      refine ⟨dx, _, upd_same, ?_, rs.put rd j⟩
      simp only [List.length_append, List.length_take, List.length_cons, List.length_drop]
      omega
    have la : Live io h a := ⟨n, _, ia, ec⟩
    have ef : fz io h (upd H a (.ins (T.cad c) dx ((T.names c).zip (xs.take j ++ v :: xs.drop (j + 1))))) = fz io h H := by
      funext b
      by_cases l : Live io h b
      · rw [fz_live l, fz_live l]
      · rw [fz_of l, fz_of l, upd_ne (fun q => l (by rw [q]; exact la))]
    obtain ⟨S', G⟩ := S.put (o := .ins (T.cad c) dx ((T.names c).zip (xs.take j ++ v :: xs.drop (j + 1)))) ia ec (by rw [ef] at hc; exact hc)
    unfold setC at p3
    rw [ec] at p3
    exact p3 _ _ () S' G True.intro
end
end SX
end
section
set_option Elab.async false
set_option linter.all false
set_option maxRecDepth 100000
set_option maxHeartbeats 1000000
/-! SX13: built-in functions and methods by name, isinstance, dicts of the module, dict displays, f-strings. -/
namespace SX
open PySem PySem.Spec PyProof.Rows L2
def bltName : Blt → Str
  | .len => "len" | .abs => "abs" | .max => "max" | .min => "min" | .int => "int" | .str => "str" | .repr => "repr" | .list => "list" | .tuple => "tuple" | .all => "all" | .any => "any" | .bool => "bool"
def bmtName : BMt → Str
  | .split => "split" | .join => "join" | .startswith => "startswith" | .endswith => "endswith" | .replace => "replace" | .index => "index" | .append => "append" | .extend => "extend" | .pop => "pop" | .clear => "clear" | .get => "get" | .update => "update"
section
variable {X : Cx} {T : Tab} {W : WX} {C : Ctx} {k : Nat}
theorem calm_bltD (b : Blt) (ds : List D) : Calm (bltD b ds) := by
  have c1 : ∀ d, Calm (blt1 b d) := fun d => by
    have hl : ∀ d, Calm (lenD d) := fun d => by
      cases d <;> first | exact Calm.stk | exact Calm.ret _ | exact Calm.bnd (Calm.guard _) fun _ => Calm.ret _ | skip
      refine Calm.bnd (Calm.getC _) fun c => ?_
      cases c <;> first | exact Calm.stk | exact Calm.ret _
    have hmx : ∀ o, Calm (maxO o) := fun o => by rcases o with _ | _ | _ <;> first | exact Calm.stk | exact Calm.ret _
    have hmn : ∀ o, Calm (minO o) := fun o => by rcases o with _ | _ | _ <;> first | exact Calm.stk | exact Calm.ret _
    have hin : ∀ n o, Calm (intO n o) := fun n o => by cases o <;> first | exact Calm.stk | exact Calm.bnd (Calm.guard _) fun _ => Calm.ret _
    have hal : ∀ o, Calm (allO o) := fun o => by cases o <;> first | exact Calm.stk | exact Calm.ret _
    have hre : ∀ o, Calm (reprO o) := fun o => by cases o <;> first | exact Calm.stk | exact Calm.bnd (Calm.guard _) fun _ => Calm.ret _
    have han : ∀ o, Calm (anyO o) := fun o => by cases o <;> first | exact Calm.stk | exact Calm.ret _
    cases b <;> first | exact hl d | skip
    all_goals (cases d <;> first | exact Calm.stk | exact Calm.ret _ | exact hmx _ | exact hmn _ | exact hin _ _ | exact hal _ | exact han _ | exact hre _ | exact Calm.bnd (Calm.guard _) fun _ => Calm.ret _)
  have c2 : ∀ d e, Calm (blt2 b d e) := fun d e => by cases b <;> cases d <;> cases e <;> first | exact Calm.stk | exact Calm.ret _
  have c3 : ∀ d e f, Calm (blt3 b d e f) := fun d e f => by cases b <;> cases d <;> cases e <;> cases f <;> first | exact Calm.stk | exact Calm.ret _
  match ds with
  | [] => exact Calm.stk
  | [d] => exact c1 d
  | [d, e] => exact c2 d e
  | [d, e, f] => exact c3 d e f
  | _ :: _ :: _ :: _ :: _ => exact Calm.stk
mutual
theorem toP_noDict : ∀ (d : D) (p : PyData), d.toP = some p → p.hasDict = false
  | .non, p, h => by cases h; rfl
  | .bl b, p, h => by cases h; rfl
  | .int i, p, h => by cases h; rfl
  | .str s, p, h => by cases h; rfl
  | .tup l, p, h => by
    unfold D.toP at h
    cases e : D.toPs l with
    | none => rw [e] at h; cases h
    | some ps => rw [e] at h; cases h; exact toPs_noDict l ps e
  | .lst l, p, h => by
    unfold D.toP at h
    cases e : D.toPs l with
    | none => rw [e] at h; cases h
    | some ps => rw [e] at h; cases h; exact toPs_noDict l ps e
  | .rol l, p, h => by cases h
  | .dic ks vs, p, h => by cases h
  | .obj c fs, p, h => by cases h
  | .ref n, p, h => by cases h
  | .cls c, p, h => by cases h
theorem toPs_noDict : ∀ (l : List D) (ps : List PyData), D.toPs l = some ps → PyData.hasDictAll ps = false
  | [], ps, h => by cases h; rfl
  | d :: l, ps, h => by
    unfold D.toPs at h
    cases e1 : D.toP d with
    | none => rw [e1] at h; cases h
    | some p =>
      cases e2 : D.toPs l with
      | none => rw [e1, e2] at h; cases h
      | some qs =>
        rw [e1, e2] at h
        cases h
        unfold PyData.hasDictAll
        rw [toP_noDict d p e1, toPs_noDict l qs e2]
        rfl
end
theorem repr_ref {W' : WX} {pins : List (Addr × Obj)} {σ σ' : L2.St} {H : Hp} {s : Shared} {Q : VK} {io : List Addr} {h : LH} {d : D} {a : Addr} {v : Value} {E' : Value → Shared → Prop} (hT : T.K = X.K) (hu : X.A.units + 70 < cLine) (hG : Gd T X.A) (I : Inv X pins σ H s) (S : Sim T io h H) (rd : Rep T io (fz io h H) d (.ref a)) (rv : RelV (.ref a) v)
    (p : Post T io h H σ' W' (Rep T) Q (reprO d.toP h)) : wpAny (model X.prog X.w) X.A (call (.builtin "repr") [v]) (EP X pins σ Q) E' s := by
  cases rv
  cases e : d.toP with
  | none => rw [e] at p; exact False.elim p
  | some pd =>
    rw [e] at p
    obtain ⟨g, p1⟩ := Post.guard p
    obtain ⟨g1, g3⟩ := Bool.and_eq_true_iff.mp g
    obtain ⟨g1, g2⟩ := Bool.and_eq_true_iff.mp g1
    obtain ⟨as, r1⟩ := Dp.reads I pd (.ref a) (.ref a) (hT ▸ Rep.dp fz_le d pd (.ref a) e rd) rfl
    have hd := SeqAt.depth_of_shaped g2
    refine repr_of_reads' r1 g1 (PyData.noDict_hsm (toP_noDict d pd e)) hG (by omega) (fun _ _ e => e) (fun h' u tk hk => ?_) (line_of g3)
    exact ⟨.str pd.shown, H, I.kept hk, ⟨u, rfl⟩, Post.here p1 S (by unfold Rep; rfl)⟩
theorem cl_repr (hT : T.K = X.K) (hu : X.A.units + 70 < cLine) (hG : Gd T X.A) : CallR X (.builtin "repr") (rL T (bltD .repr)) := by
  refine cl_one (b := .repr) (fun h => nomatch h) (fun h => nomatch h) fun pins s σ H x u Q io h d I r S rd p => ?_
  cases d <;> try exact False.elim p
  case lst l =>
    have rd0 := rd
    unfold Rep at rd
    obtain ⟨a, xs, rfl, e, z⟩ := rd
    exact repr_ref hT hu hG I S rd0 r p
  case tup l =>
    have rd0 := rd
    unfold Rep at rd
    obtain ⟨a, xs, rfl, e, z⟩ := rd
    exact repr_ref hT hu hG I S rd0 r p
theorem lenX_cases (b : Blt) (ds : List D) : (∃ c fs, b = .len ∧ ds = [.obj c fs]) ∨ lenX C b ds = bltD b ds := by
  cases b <;> first | exact .inr rfl | skip
  match ds with
  | [] => exact .inr rfl
  | [d] => cases d <;> first | exact .inr rfl | exact .inl ⟨_, _, rfl, rfl⟩
  | d :: _ :: _ => cases d <;> exact .inr rfl
theorem calm_lenX (b : Blt) (ds : List D) : Calm (lenX C b ds) := by
  rcases lenX_cases (C := C) b ds with ⟨c, fs, rfl, rfl⟩ | e
  · refine Calm.bnd (Calm.noEx _) fun r => ?_
    cases r <;> first | exact Calm.stk | exact Calm.bnd (Calm.guard _) fun _ => Calm.ret _
  · rw [e]; exact calm_bltD _ _
theorem CallR.lenX {f : Value} {b : Blt} (hb : b ≠ .len) (h : CallR X f (rL T (bltD b))) : CallR X f (rL T (lenX C b)) := by
  intro pins s σ H xs us Q I r ⟨io, hh, ds, S, rr, p⟩
  rcases lenX_cases (C := C) b ds with ⟨c, fs, e, _⟩ | e
  · exact absurd e hb
  · rw [e] at p
    exact h pins s σ H xs us Q I r ⟨io, hh, ds, S, rr, p⟩
theorem tCB_of {b : Blt} {m : Env → EM (List D)} {σ : L2.St} {H : Hp} {Q : VK} (p : tE T W (fun env => bnd (m env) fun vs => lenX C b vs) σ H Q) : tCB (rL T (lenX C b)) (tA T W m) σ H Q := by
  obtain ⟨io, h, env, S, r, p⟩ := p
  exact step S r p fun io1 h1 ds vs H1 S1 G1 rs p1 => ⟨io1, h1, ds, S1, rs, (calm_lenX b ds).post p1⟩
/-- f(e, ..), f built in -/
theorem ok_blt {b : Blt} {x : Str} {p pos : Pos} {e : Expr} {es : List Expr} {m : Env → EM (List D)} (hT : T.K = X.K) (hc : X.calm = true) (hr : Room (k + 1) X.A) (hG : Gd T X.A) (hL : ∀ c s, C.mt c aLen 0 = some s → DnG X T C k c "__len__" aLen 0)
    (hx : x = bltName b) (hg : Gl X x) (hm : X.mg x = none) (hp : plainArgs (e :: es) = true) (ha : PA X (e :: es) (tA T W m)) : PE X (.Call (.Name x p) (e :: es) [] pos) (tE T W fun env => bnd (m env) fun vs => lenX C b vs) := by
  subst hx
  have B : ∀ {id : String}, bootBuiltins (bltName b) = some (.builtin id) → (bltName b ≠ "__name__") → ((bltName b == ("__debug__" : Str)) = false) → CallR X (.builtin id) (rL T (lenX C b)) → PE X (.Call (.Name (bltName b) p) (e :: es) [] pos) (tE T W fun env => bnd (m env) fun vs => lenX C b vs) :=
    fun hv hn hd hc => (pe_callB hc hg hm hv ha hn hd (plain_cons hp _) (plain_any (plain_tail hp) _ _)).imp fun σ H Q q => tCB_of q
  have Y : ∀ {id : String}, bootBuiltins (bltName b) = some (.type id) → (bltName b ≠ "__name__") → ((bltName b == ("__debug__" : Str)) = false) → CallR X (.type id) (rL T (lenX C b)) → PE X (.Call (.Name (bltName b) p) (e :: es) [] pos) (tE T W fun env => bnd (m env) fun vs => lenX C b vs) :=
    fun hv hn hd hc => (pe_callTy hc hg hm hv ha hn hd (plain_cons hp _) (plain_any (plain_tail hp) _ _)).imp fun σ H Q q => tCB_of q
  cases b with
  | len => exact B (id := "len") (by decide +kernel) (by decide) (by decide) (cl_lenX hT hr hG hL)
  | abs => exact B (id := "abs") (by decide +kernel) (by decide) (by decide) (CallR.lenX (fun e => nomatch e) cl_abs)
  | max => exact B (id := "max") (by decide +kernel) (by decide) (by decide) (CallR.lenX (fun e => nomatch e) (cl_max hc))
  | min => exact B (id := "min") (by decide +kernel) (by decide) (by decide) (CallR.lenX (fun e => nomatch e) (cl_min hc))
  | int => exact Y (id := "int") (by decide +kernel) (by decide) (by decide) (CallR.lenX (fun e => nomatch e) cl_int)
  | str => exact Y (id := "str") (by decide +kernel) (by decide) (by decide) (CallR.lenX (fun e => nomatch e) cl_str)
  | repr => exact B (id := "repr") (by decide +kernel) (by decide) (by decide) (CallR.lenX (fun e => nomatch e) (cl_repr hT (by have := hr.un; omega) hG))
  | list => exact Y (id := "list") (by decide +kernel) (by decide) (by decide) (CallR.lenX (fun e => nomatch e) (cl_list hT))
  | tuple => exact Y (id := "tuple") (by decide +kernel) (by decide) (by decide) (CallR.lenX (fun e => nomatch e) (cl_tuple hT))
  | all => exact B (id := "all") (by decide +kernel) (by decide) (by decide) (CallR.lenX (fun e => nomatch e) (cl_all hc))
  | any => exact B (id := "any") (by decide +kernel) (by decide) (by decide) (CallR.lenX (fun e => nomatch e) (cl_any hc))
  | bool => exact Y (id := "bool") (by decide +kernel) (by decide) (by decide) (CallR.lenX (fun e => nomatch e) cl_bool)
/-! ### methods -/
theorem calm_bmtD (m : BMt) (x : D) (ds : List D) : Calm (bmtD m x ds) := by
  have c1 : ∀ d, Calm (bmt1 m x d) := fun d => by
    have hj : ∀ a o, Calm (joinO a o) := fun a o => by cases o <;> first | exact Calm.stk | exact Calm.bnd (Calm.guard _) fun _ => Calm.ret _
    have hn : ∀ o, Calm (natO o) := fun o => by cases o <;> first | exact Calm.stk | exact Calm.ret _
    have ha : ∀ n d c, Calm (appD n d c) := fun n d c => by cases c <;> first | exact Calm.stk | exact Calm.bnd (Calm.guard _) fun _ => Calm.bnd (Calm.setC _ _) fun _ => Calm.ret _
    have he : ∀ n d c, Calm (extD n d c) := fun n d c => by cases c <;> first | exact Calm.stk | exact Calm.bnd (Calm.guard _) fun _ => Calm.bnd (Calm.setC _ _) fun _ => Calm.ret _
    have hu : ∀ n d c c2, Calm (updD n d c c2) := fun n d c c2 => by cases c <;> cases c2 <;> first | exact Calm.stk | exact Calm.bnd (Calm.guard _) fun _ => Calm.bnd (Calm.setC _ _) fun _ => Calm.ret _
    cases m <;> cases x <;> first | exact Calm.stk | exact Calm.bnd (Calm.getC _) fun _ => ha _ _ _ | skip
    all_goals (cases d <;> first | exact Calm.stk | exact Calm.ret _ | exact hj _ _ | exact Calm.bnd (Calm.guard _) fun _ => Calm.ret _ | exact Calm.bnd (Calm.getC _) fun _ => he _ _ _ | exact Calm.bnd (Calm.getC _) fun _ => Calm.bnd (Calm.getC _) fun _ => hu _ _ _ _ | skip)
    all_goals (show Calm (if _ then natO _ else stk); split <;> first | exact hn _ | exact Calm.stk)
  match ds with
  | [] => exact Calm.stk
  | [d] => exact c1 d
  | _ :: _ :: _ => exact Calm.stk
/-- the type of such a method's receiver -/
def bmtTy : BMt → String
  | .split => "str" | .join => "str" | .startswith => "str" | .endswith => "str" | .replace => "str" | .index => "list" | .append => "list" | .extend => "list" | .pop => "list" | .clear => "dict" | .get => "dict" | .update => "dict"
theorem kind_ty {m : BMt} {d : D} {v : V} {io : List Addr} {h : LH} {H : Hp} {σ : L2.St} {γ β : Type} {R : List Addr → Hp → γ → β → Prop} {Q : β → Hp → Prop} {kk : EM γ} (S : Sim T io h H) (r : Rep T io (fz io h H) d v) (p : Post T io h H σ W R Q (bnd (kindD m d) (fun _ => kk) h)) :
    tyV X.K (bmtTy m) v H ∧ Post T io h H σ W R Q (kk h) := by
  have L : ∀ {n : Nat} {kc : Cell → EM Unit}, d = .ref n → (∀ l, kc (.lst l) = ret ()) → (∀ l, kc (.dic l) = stk) → (∀ c l, kc (.obj c l) = stk) → Post T io h H σ W R Q (bnd (bnd (getC n) kc) (fun _ => kk) h) → (∃ a xs, v = .ref a ∧ SqL X.K H a xs) ∧ Post T io h H σ W R Q (kk h) := by
    intro n kc e k1 k2 k3 pz
    rw [bnd_bnd] at pz
    obtain ⟨c, ec, pz⟩ := Post.getC pz
    cases c with
    | lst l =>
      rw [k1] at pz
      subst e
      obtain ⟨a, xs, rfl, ea, q, z⟩ := cell_lst S r ec
      exact ⟨⟨a, xs, rfl, SqL.of q⟩, pz⟩
    | dic l => rw [k2] at pz; exact False.elim pz
    | obj c l => rw [k3] at pz; exact False.elim pz
  cases m <;> cases d <;> try exact False.elim p
  case index.lst l =>
    unfold Rep at r
    obtain ⟨a, xs, rfl, e, z⟩ := r
    exact ⟨.inl ⟨rfl, xs, SqL.of (fz_some e)⟩, p⟩
  case append.ref n =>
    obtain ⟨⟨a, xs, rfl, q⟩, p⟩ := L rfl (fun _ => rfl) (fun _ => rfl) (fun _ _ => rfl) p
    exact ⟨.inl ⟨rfl, xs, q⟩, p⟩
  case extend.ref n =>
    obtain ⟨⟨a, xs, rfl, q⟩, p⟩ := L rfl (fun _ => rfl) (fun _ => rfl) (fun _ _ => rfl) p
    exact ⟨.inl ⟨rfl, xs, q⟩, p⟩
  case update.ref n =>
    have p' : Post T io h H σ W R Q (bnd (getC n) (fun c => bnd (match c with
      | .dic _ => ret ()
      | _ => stk) fun _ => kk) h) := by
      rw [← bnd_bnd]; exact p
    obtain ⟨c, ec, p⟩ := Post.getC p'
    cases c <;> try exact False.elim p
    obtain ⟨a, xs, rfl, ea, q, z⟩ := cell_dic S r ec
    exact ⟨.inr (.inr (.inl ⟨rfl, .inl ⟨xs, q⟩⟩)), p⟩
  all_goals (unfold Rep at r; subst r; exact ⟨rfl, p⟩)
/-- the methods that are served -/
def bmtOk : BMt → Bool
  | .replace => false | .pop => false | .clear => false | .get => false | _ => true
/-- o.m(e) of a built-in -/
theorem ok_bmt {m : BMt} {o e : Expr} {x : Str} {apos pos : Pos} {mo : Env → EM D} {ma : Env → EM (List D)} (hT : T.K = X.K) (hu : X.A.units + 65 < cLine) (hok : bmtOk m = true)
    (hx : x = bmtName m) (hb : attributeBase o x X.env (eval o X.env) = eval o X.env) (hp : plainArgs [e] = true) (hpos : (apos.endLine == pos.line) = true) (ho : PE X o (tE T W mo)) (ha : PA X [e] (tA T W ma)) :
    PE X (.Call (.Attribute o x apos) [e] [] pos) (tE T W fun env => bnd (mo env) fun x => bnd (kindD m x) fun _ => bnd (ma env) fun vs => bmtD m x vs) := by
  subst hx
  have R : ∀ {id : String}, PlainAttrs (bmtTy m) → Slot (bmtTy m) (bmtName m) id → (typeOf (.builtin id) = pure (.type "method_descriptor")) → MtR X id (rMt T m) →
      PE X (.Call (.Attribute o (bmtName m) apos) [e] [] pos) (tE T W fun env => bnd (mo env) fun x => bnd (kindD m x) fun _ => bnd (ma env) fun vs => bmtD m x vs) := fun pa sl ty mt => by
    refine (pe_bm pa sl ty mt ho ha hb (by rw [plain_cons hp]; rfl) hpos (plain_cons hp _) rfl).imp fun σ H Q ⟨io, h, env, S, r, p⟩ => ?_
    refine step S r p fun io1 h1 d v H1 S1 G1 rd p1 => ?_
    obtain ⟨ty, p2⟩ := kind_ty (X := X) S1 rd p1
    refine ⟨ty, step S1 (r.grow G1) p2 fun io2 h2 ds vs H2 S2 G2 rs p3 => ?_⟩
    exact ⟨io2, h2, d, ds, S2, rd.grow G2, rs, (calm_bmtD m d ds).post p3⟩
  cases m with
  | split => exact R F.plainAttrs_str F.slot_str_split F.type_str_split m_split
  | join => exact R F.plainAttrs_str F.slot_str_join F.type_str_join m_join
  | startswith => exact R F.plainAttrs_str F.slot_str_startswith F.type_str_startswith m_starts
  | endswith => exact R F.plainAttrs_str F.slot_str_endswith F.type_str_endswith m_ends
  | replace => exact absurd hok Bool.false_ne_true
  | index => exact R F.plainAttrs_list F.slot_list_index F.type_list_index (m_index hT hu)
  | append => exact R F.plainAttrs_list F.slot_list_append F.type_list_append m_append
  | extend => exact R F.plainAttrs_list F.slot_list_extend F.type_list_extend m_extend
  | pop => exact absurd hok Bool.false_ne_true
  | clear => exact absurd hok Bool.false_ne_true
  | get => exact absurd hok Bool.false_ne_true
  | update => exact R F.plainAttrs_dict F.slot_dict_update F.type_dict_update m_update
end
end SX
end
section
set_option Elab.async false
set_option linter.all false
set_option maxRecDepth 100000
set_option maxHeartbeats 1000000
/-! SX14: isinstance, dicts of the module, dict displays, f-strings. -/
namespace SX
open PySem PySem.Spec PyProof.Rows L2
/-- the type of a value that isinstance may be asked of -/
inductive Tg where | non | bool | int | str | list | tuple | cls (c : Nat)
def tgOf : D → Option Tg
  | .non => some .non
  | .bl _ => some .bool
  | .int _ => some .int
  | .str _ => some .str
  | .lst _ => some .list
  | .tup _ => some .tuple
  | .obj c _ => some (.cls c)
  | _ => none
def tgV (T : Tab) : Tg → Value
  | .non => .type "NoneType" | .bool => .type "bool" | .int => .type "int" | .str => .type "str" | .list => .type "list" | .tuple => .type "tuple" | .cls c => .ref (T.cad c)
def tnV (T : Tab) : TyN → Value
  | .int => .type "int" | .bool => .type "bool" | .str => .type "str" | .list => .type "list" | .tuple => .type "tuple" | .cls c => .ref (T.cad c)
def tnW (T : Tab) : TyN → V
  | .int => .ty "int" | .bool => .ty "bool" | .str => .ty "str" | .list => .ty "list" | .tuple => .ty "tuple" | .cls c => .ref (T.cad c)
def isTg : TyN → Tg → Bool
  | .int, .int => true
  | .int, .bool => true
  | .bool, .bool => true
  | .str, .str => true
  | .list, .list => true
  | .tuple, .tuple => true
  | .cls c, .cls c' => c == c'
  | _, _ => false
def tgOk (C : Ctx) : Tg → Bool
  | .cls c => C.cls.contains c
  | _ => true
theorem tg_is {t : TyN} {d : D} {b : Bool} (h : isTy t d = some b) : ∃ g, tgOf d = some g ∧ b = isTg t g := by
  cases t <;> cases d <;> first | (cases h; done) | exact ⟨_, rfl, (Option.some.inj h).symm⟩
structure IsG (X : Cx) (T : Tab) (C : Ctx) : Prop where
  own : ∀ c, C.cls.contains c = true → Cls X.K (T.cad c) ∧ PySem.W.findIn X.K (.ref (T.cad c)) "__class__" = some (some (.builtin "object.__class__")) ∧ PySem.W.specialIn X.K (.builtin "object.__class__") "__get__" = some (some (.builtin "getset_descriptor.__get__")) ∧
    PySem.W.takesIn X.K (.builtin "object.__class__") = some true ∧ PySem.W.mroIn X.K (T.cad c) (.type "object") = some true
  kit : ∀ g t, tgOk C g = true → tyOk C t = true → PySem.W.kitOne X.K (tgV T g) (tnV T t) = some (isTg t g)
section
variable {X : Cx} {T : Tab} {W : WX} {C : Ctx} {k : Nat}
theorem tyX_of {d : D} {g : Tg} {v : V} {io : List Addr} {h : LH} {H : Hp} (hT : T.K = X.K) (G : IsG X T C) (e : tgOf d = some g) (ok : clsOk C d = true) (r : Rep T io (fz io h H) d v) : TyX X.K H v (tgV T g) ∧ tgOk C g = true := by
  cases d <;> first | (cases e; done) | (cases e; unfold Rep at r)
  · subst r; exact ⟨.base .non, rfl⟩
  · subst r; exact ⟨.base (.bl _), rfl⟩
  · subst r; exact ⟨.base (.int _), rfl⟩
  · subst r; exact ⟨.base (.str _), rfl⟩
  · obtain ⟨a, xs, rfl, q, z⟩ := r
    rcases q with (q | ⟨o, q⟩) | ⟨o, its, n, q1, q2, _⟩
    · exact ⟨.base (.tup (fz_some q)), rfl⟩
    · exact ⟨.fTuple (fz_some q), rfl⟩
    · exact ⟨.kTuple (hT ▸ q1) q2, rfl⟩
  · obtain ⟨a, xs, rfl, q, z⟩ := r
    exact ⟨.base (.lst (fz_some q)), rfl⟩
  · obtain ⟨a, dx, xs, rfl, q, z⟩ := r
    obtain ⟨cl, h1, h2, h3, h4⟩ := G.own _ ok
    exact ⟨.base (.ins (fz_some q) cl h1 h2 h3 h4), ok⟩
theorem kit_all (G : IsG X T C) {g : Tg} (hg : tgOk C g = true) {d : D} (e : tgOf d = some g) : ∀ {ts : List TyN} {b : Bool}, ts.all (tyOk C) = true → isTys ts d = some b → PySem.W.kitAny X.K (tgV T g) (ts.map (tnV T)) = some b
  | [], b, _, h => h
  | t :: ts, b, ht, h => by
    obtain ⟨h1, h2⟩ := Bool.and_eq_true_iff.mp (List.all_cons ▸ ht)
    unfold isTys at h
    cases q : isTy t d with
    | none => rw [q] at h; cases h
    | some k =>
      obtain ⟨g', eg, ek⟩ := tg_is q
      rw [e] at eg
      cases eg
      have kt := G.kit g t hg h1
      rw [← ek] at kt
      rw [q] at h
      refine kitAny_cons kt (fun z => ?_) (fun z => ?_)
      · subst z
        exact kit_all G hg e h2 h
      · subst z
        exact (Option.some.inj h).symm
/-- a class's name as a value -/
structure TnG (X : Cx) (T : Tab) (t : TyN) (x : Str) : Prop where
  pe : ∀ p, PE X (.Name x p) (tC (tnW T t))
theorem clsV_of (t : TyN) : ClsV (tnW T t) (tnV T t) := by cases t <;> constructor
theorem isiX_post {io : List Addr} {h : LH} {H : Hp} {σ : L2.St} {Q : VK} {ts : List TyN} {d : D} {v : V} (hT : T.K = X.K) (G : IsG X T C) (S : Sim T io h H) (r : Rep T io (fz io h H) d v) (p : Post T io h H σ W (Rep T) Q (isiX C ts d h)) (h0 : ts ≠ []) :
    ∃ g b, TyX X.K H v (tgV T g) ∧ PySem.W.kitAny X.K (tgV T g) (ts.map (tnV T)) = some b ∧ Q (.bl b) H := by
  unfold isiX at p
  obtain ⟨g, p⟩ := Post.guard p
  obtain ⟨g1, g2⟩ := Bool.and_eq_true_iff.mp g
  obtain ⟨b, e, pz⟩ := Post.ofO p
  cases ts with
  | nil => exact absurd rfl h0
  | cons t ts =>
    have z : ∃ k, isTy t d = some k := by
      unfold isTys at e
      cases q : isTy t d with
      | none => rw [q] at e; cases e
      | some k => exact ⟨k, rfl⟩
    obtain ⟨k, z⟩ := z
    obtain ⟨g', eg, _⟩ := tg_is z
    obtain ⟨ty, hg⟩ := tyX_of hT G eg g1 r
    exact ⟨g', b, ty, kit_all G hg eg g2 e, Post.here pz S bl_rep⟩
theorem kit1 {K : PySem.W.Frag} {t c : Value} {b : Bool} (h : PySem.W.kitAny K t [c] = some b) : PySem.W.kitOne K t c = some b := by
  unfold PySem.W.kitAny at h
  cases q : PySem.W.kitOne K t c with
  | none => rw [q] at h; cases h
  | some k =>
    rw [q] at h
    cases k with
    | true => exact h
    | false =>
      have h' : some false = some b := h
      exact h'
theorem ok_isi1 {t : TyN} {x : Str} {e : Expr} {p px pos : Pos} {m : Env → EM D} (hT : T.K = X.K) (G : IsG X T C) (hg : Gl X "isinstance") (hm : X.mg "isinstance" = none) (hx : TnG X T t x) (hp : plainArgs [e] = true) (he : PE X e (tE T W m)) :
    PE X (.Call (.Name "isinstance" p) [e, .Name x px] [] pos) (tE T W fun env => bnd (m env) (isiX C [t])) := by
  have hs : starEach [e, .Name x px] X.env = (false, eval e X.env) :: starEach [.Name x px] X.env := by cases e <;> first | rfl | exact absurd hp Bool.false_ne_true
  refine (pe_callB (call_isi (X := X)) hg hm boot_isinstance (pa_cons he (pa_cons (hx.pe px) pa_nil rfl) hs) (he := hs) (hpl := rfl)).imp fun σ H Q ⟨io, h, env, S, r, q⟩ => ?_
  refine step S r q fun io1 h1 d v H1 S1 G1 rd p1 => ?_
  obtain ⟨g, b, ty, kt, q1⟩ := isiX_post hT G S1 rd p1 (by simp)
  exact ⟨v, tnW T t, tgV T g, tnV T t, b, rfl, clsV_of t, ty, kit1 kt, q1⟩
/-- names of classes -/
theorem pa_names : ∀ {ts : List TyN} {es : List Expr}, Paired (fun (t : TyN) (e : Expr) => ∃ x p, e = Expr.Name x p ∧ TnG X T t x) ts es → PA X es (fun _ H Q => Q (ts.map (tnW T)) H)
  | [], [], .nil => pa_nil
  | t :: ts, e :: es, .cons h r => by
    obtain ⟨x, p, rfl, hx⟩ := h
    exact (pa_cons (hx.pe p) (pa_names r) rfl).imp fun σ H Q q => q
theorem paired_names : ∀ ts : List TyN, Paired ClsV (ts.map (tnW T)) (ts.map (tnV T))
  | [] => .nil
  | t :: ts => .cons (clsV_of t) (paired_names ts)
theorem ok_isiT {ts : List TyN} {es : List Expr} {e : Expr} {kk : Nat} {p px pos : Pos} {m : Env → EM D} (hT : T.K = X.K) (G : IsG X T C) (hg : Gl X "isinstance") (hm : X.mg "isinstance" = none) (hx : Paired (fun (t : TyN) (e : Expr) => ∃ x p, e = Expr.Name x p ∧ TnG X T t x) ts es) (h0 : ts ≠ []) (hl : ts.length ≤ 100)
    (hp : plainArgs [e] = true) (he : PE X e (tE T W m)) :
    PE X (.Call (.Name "isinstance" p) [e, .Tuple es kk px] [] pos) (tE T W fun env => bnd (m env) (isiX C ts)) := by
  have hs : starEach [e, .Tuple es kk px] X.env = (false, eval e X.env) :: starEach [.Tuple es kk px] X.env := by cases e <;> first | rfl | exact absurd hp Bool.false_ne_true
  refine (pe_callB (call_isiT (X := X)) hg hm boot_isinstance (pa_cons he (pa_cons (pe_tup (pa_names hx)) pa_nil rfl) hs) (he := hs) (hpl := rfl)).imp fun σ H Q ⟨io, h, env, S, r, q⟩ => ?_
  refine step S r q fun io1 h1 d v H1 S1 G1 rd p1 => ?_
  refine ⟨by rw [List.length_map, sizeLine_eq]; omega, fun tp hn => ?_⟩
  obtain ⟨S2, G2⟩ := S1.alloc (.tup (ts.map (tnW T))) hn
  obtain ⟨g, b, ty, kt, q1⟩ := isiX_post hT G S2 (rd.grow G2) (Post.from p1 G2) h0
  exact ⟨v, tp, ts.map (tnW T), tgV T g, ts.map (tnV T), b, rfl, upd_same, paired_names ts, ty, kt, q1⟩
/-! ### dicts of the module -/
structure GdG (X : Cx) (T : Tab) (C : Ctx) (x : Str) (i : Nat) : Prop where
  ok : ∃ d es n, X.mg x = some (.ref d) ∧ KDict X.K X.w d es n ∧ ∀ kvs, C.gd i = some kvs → ∀ z : Str, ∃ r, PySem.W.nsIn X.K d z = some r ∧ r.isSome = (kvs.lookup z).isSome ∧ ∀ v, kvs.lookup z = some v → ∃ u0 v0, r = some u0 ∧ RelV v0 u0 ∧ ∀ io F, Rep T io F v v0
theorem ok_gin {x : Str} {i : Nat} {neg : Bool} {a : Expr} {px pos : Pos} {m : Env → EM D} (G : GdG X T C x i) (hg : Gl X x) (hd : (x == ("__debug__" : Str)) = false) (ha : PE X a (tE T W m)) :
    PE X (.Compare a [if neg then .NotIn else .In] [.Name x px] pos) (tE T W fun env => bnd (m env) (ginX C i neg)) := by
  obtain ⟨d, es, n, hm, kd, hk⟩ := G.ok
  have fin : ∀ {σ : L2.St} {H : Hp} {Q : VK}, tE T W (fun env => bnd (m env) (ginX C i neg)) σ H Q → tE T W m σ H fun y H1 => ∃ (z : Str) (r : Option Value), y = .str z ∧ PySem.W.nsIn X.K d z = some r ∧ Q (.bl (if neg then !r.isSome else r.isSome)) H1 := fun ⟨io, h, env, S, r, q⟩ => by
    refine step S r q fun io1 h1 dd v H1 S1 G1 rd p1 => ?_
    cases dd <;> try exact False.elim p1
    rename_i z
    obtain ⟨kvs, e, p2⟩ := Post.ofO p1
    obtain ⟨r, e1, e2, _⟩ := hk kvs e z
    unfold Rep at rd
    exact ⟨z, r, rd, e1, by rw [e2]; exact Post.here p2 S1 bl_rep⟩
  cases neg with
  | false =>
    refine (pe_cmpR (op_in_kd kd) ha (pe_glob (v := .ref d) hg hm rfl hd) (by rfl)).imp fun σ H Q q => ?_
    refine (?_ : tE T W m σ H _)
    obtain ⟨io, h, env, S, r, p⟩ := fin q
    exact ⟨io, h, env, S, r, p.mono fun y H1 ⟨z, r, e1, e2, e3⟩ => ⟨z, r, e1, rfl, e2, e3⟩⟩
  | true =>
    refine (pe_cmpR (op_notIn_kd kd) ha (pe_glob (v := .ref d) hg hm rfl hd) (by rfl)).imp fun σ H Q q => ?_
    refine (?_ : tE T W m σ H _)
    obtain ⟨io, h, env, S, r, p⟩ := fin q
    exact ⟨io, h, env, S, r, p.mono fun y H1 ⟨z, r, e1, e2, e3⟩ => ⟨z, r, e1, rfl, e2, e3⟩⟩
theorem ok_gix {x : Str} {i : Nat} {a : Expr} {px pos : Pos} {m : Env → EM D} (G : GdG X T C x i) (hg : Gl X x) (hd : (x == ("__debug__" : Str)) = false) (ha : PE X a (tE T W m)) (hs : PlainIx a) :
    PE X (.Subscript (.Name x px) a pos) (tE T W fun env => bnd (m env) (gixX C i)) := by
  obtain ⟨d, es, n, hm, kd, hk⟩ := G.ok
  have hix : IxR X (fun x y H Q => ∃ (z : Str) (u0 : Value) (v0 : V), x = .ref d ∧ y = .str z ∧ PySem.W.nsIn X.K d z = some (some u0) ∧ RelV v0 u0 ∧ Q v0 H) := by
    intro value slice pins s σ H x y v u Q I rx ry h hs
    obtain ⟨z, u0, v0, rfl, rfl, e, r, q⟩ := h
    exact ix_kdict value slice pins s σ H (.ref d) (.str z) v u Q I rx ry ⟨d, z, v0, rfl, rfl, ⟨es, n, u0, kd.at_, kd.lit, e, r⟩, q⟩ hs
  refine (pe_ix hix (pe_glob (v := .ref d) hg hm rfl hd) ha hs).imp fun σ H Q ⟨io, h, env, S, r, q⟩ => ?_
  refine (?_ : tE T W m σ H _)
  refine step S r q fun io1 h1 dd v H1 S1 G1 rd p1 => ?_
  cases dd <;> try exact False.elim p1
  rename_i z
  obtain ⟨kvs, e, p2⟩ := Post.ofO p1
  obtain ⟨d', e4, p3⟩ := Post.ofO' p2
  obtain ⟨r, e1, e2, e3⟩ := hk kvs e z
  obtain ⟨u0, v0, rfl, rl, rp⟩ := e3 d' e4
  unfold Rep at rd
  exact ⟨z, u0, v0, rfl, rd, e1, rl, Post.here p3 S1 (rp _ _)⟩
end
end SX
end
section
set_option Elab.async false
set_option linter.all false
set_option maxRecDepth 100000
set_option maxHeartbeats 1000000
/-! SX15: dict displays, f-strings. -/
namespace SX
open PySem PySem.Spec PyProof.Rows L2
section
variable {X : Cx} {T : Tab} {W : WX} {C : Ctx} {k : Nat}
def dccT (T : Tab) (W : WX) (C : Ctx) : List Key → CL → List (TE × TE)
  | k :: ks, .one e r => (tC (kV k), tE T W (evE C e)) :: dccT T W C ks r
  | _, _ => []
/-- only plain parts -/
def CL.plain : CL → Bool
  | .nil => true
  | .one _ r => r.plain
  | .sta _ _ => false
theorem pairs_ok {γ β : Type} {R : List Addr → Hp → γ → β → Prop} {Q : β → Hp → Prop} {σ : L2.St} : ∀ (es : CL) (ks : List Key) {io : List Addr} {h : LH} {H : Hp} {env : Env} {kk : List D → EM γ} {P : List (V × V) → Hp → Prop}, es.plain = true → ks.length = es.len → Sim T io h H → REnv T io (fz io h H) env σ →
    Post T io h H σ W R Q (bnd (evL C es env) kk h) → (∀ io2 h2 H2 ds vs, Sim T io2 h2 H2 → Grow io h H io2 h2 H2 → Reps T io2 (fz io2 h2 H2) ds vs → vs.length = ks.length → Post T io2 h2 H2 σ W R Q (kk ds h2) → P ((ks.zip vs).map fun kv => (kV kv.1, kv.2)) H2) → tPairs (dccT T W C ks es) σ H P
  | .nil, [], io, h, H, env, kk, P, _, _, S, r, p, f => by
    unfold evL at p
    exact f io h H [] [] S (Grow.refl _ _ _) Reps.nil rfl p
  | .nil, _ :: _, _, _, _, _, _, _, _, hl, _, _, _, _ => by cases hl
  | .one e es, [], _, _, _, _, _, _, _, hl, _, _, _, _ => by cases hl
  | .sta e es, _, _, _, _, _, _, _, hp, _, _, _, _, _ => absurd hp Bool.false_ne_true
  | .one e es, k :: ks, io, h, H, env, kk, P, hp, hl, S, r, p, f => by
    unfold evL at p
    rw [bnd_bnd] at p
    show tE T W (evE C e) σ H fun y H2 => tPairs (dccT T W C ks es) σ H2 fun ps H3 => P ((kV k, y) :: ps) H3
    refine step S r p fun io1 h1 d v H1 S1 G1 rd p1 => ?_
    rw [bnd_bnd] at p1
    refine pairs_ok es ks (kk := fun xs => kk (d :: xs)) hp (Nat.succ.inj hl) S1 (r.grow G1) p1 fun io2 h2 H2 ds vs S2 G2 rs hn p2 => ?_
    exact f io2 h2 H2 (d :: ds) (v :: vs) S2 (G1.trans G2) (Reps.cons (rd.grow G2) rs) (by rw [List.length_cons, List.length_cons, hn]) p2
theorem zip_rkv {io : List Addr} {F : Hp} : ∀ {ks : List Key} {ds : List D} {vs : List V}, Reps T io F ds vs → RKV T io F (ks.zip ds) (ks.zip vs)
  | [], _, _, _ => RKV.nil
  | k :: ks, [], vs, r => by
    unfold Reps at r
    subst r
    exact RKV.nil
  | k :: ks, d :: ds, vs, r => by
    unfold Reps at r
    obtain ⟨x, xs, rfl, h, z⟩ := r
    exact RKV.cons h (zip_rkv z)
theorem ok_dcc {ks : List Key} {es : CL} {keys : List (Option Expr)} {values : List Expr} {pos : Pos} (hpp : PPs X pos keys values (dccT T W C ks es)) (hall : keys.all (·.isSome) = true) (hl : keys.length = values.length) (hk : keys.length = ks.length) (h0 : keys ≠ []) (hpl : es.plain = true) :
    PE X (.Dict keys values pos) (tE T W fun env => bnd (guard' (ks.length == es.len && decide (ks.length ≤ 15) && !ks.isEmpty)) fun _ => bnd (newN (.dic [])) fun n => bnd (evL C es env) fun vs => fillD n (ks.zip vs)) := by
  refine ⟨fun pins s σ H Q I ⟨io, h, env, S, r, p⟩ => ?_⟩
  obtain ⟨g, p⟩ := Post.guard p
  have g' := Bool.and_eq_true_iff.mp g
  have g'' := Bool.and_eq_true_iff.mp g'.1
  have h15 : ks.length ≤ 15 := of_decide_eq_true g''.2
  have hlen : ks.length = es.len := eq_of_beq g''.1
  refine (pe_disp hpp hall hl h0 (by rw [hk]; exact h15)).run pins s σ H Q I ?_
  intro q hq
  have hc : CellAt T io (fz io h H) (upd H q (.dK [])) q (.dic []) := ⟨[], upd_same, rfl, Reps.nil⟩
  obtain ⟨S1, G1⟩ := S.push hq hc
  have hn : (io ++ [q])[h.length]? = some q := by rw [← S.len]; simp
  have p1 : Post T io h H σ W (Rep T) Q (bnd (evL C es env) (fun vs => fillD h.length (ks.zip vs)) (h ++ [some (.dic [])])) := p
  refine pairs_ok es ks hpl hlen S1 (r.grow G1) (p1.from G1) fun io2 h2 H2 ds vs S2 G2 rs hv p2 => ?_
  unfold fillD at p2
  obtain ⟨c, ec, p3⟩ := Post.getC p2
  have ea := G2.pre.get hn
  cases c with
  | lst l => exact False.elim p3
  | obj c l => exact False.elim p3
  | dic l =>
    cases l with
    | cons a l => exact False.elim p3
    | nil =>
      obtain ⟨xs, e1, e2, _⟩ := S2.cell _ _ _ ea ec
      have hx : xs = [] := by cases xs <;> first | rfl | cases e2
      subst hx
      have rk := (zip_rkv (ks := ks) rs).merge (l := []) (xs := []) RKV.nil
      refine ⟨e1, ks.zip vs, rfl, ?_, setC_post (o := .dK (mergeK [] (ks.zip vs))) p3 ec ea S2 ⟨_, upd_same, rk.1, rk.2⟩ fun S' G' p4 => Post.here p4 S' ?_⟩
      · rw [List.length_zip]; omega
      · unfold Rep
        exact ⟨q, rfl, ea⟩
/-! ### f-strings -/
def fstT (T : Tab) (W : WX) (C : Ctx) : CL → List TE
  | .one e r => tE T W (fun env => bnd (evE C e env) fun x => bnd (fmtD x) fun s => ret (.str s)) :: fstT T W C r
  | _ => []
theorem fmt_post {io : List Addr} {h : LH} {H : Hp} {σ : L2.St} {γ β : Type} {R : List Addr → Hp → γ → β → Prop} {Q : β → Hp → Prop} {d : D} {v : V} {kk : Str → EM γ} (r : Rep T io (fz io h H) d v) (p : Post T io h H σ W R Q (bnd (fmtD d) kk h)) :
    ∃ y : Str, ((v = .str y ∧ y.length ≤ sizeLine) ∨ ∃ i : Int, v = .int i ∧ i.natAbs.log2 < 1920 ∧ y = ((toString i : String) : Str)) ∧ Post T io h H σ W R Q (kk y h) := by
  cases d <;> try exact False.elim p
  · rename_i i
    have p' : Post T io h H σ W R Q (bnd (guard' (strOk i)) (fun _ => kk ((toString i : String) : Str)) h) := by
      have e : bnd (fmtD (.int i)) kk = bnd (guard' (strOk i)) (fun _ => kk ((toString i : String) : Str)) := bnd_bnd _ _ _
      rw [← e]; exact p
    obtain ⟨g, p2⟩ := Post.guard p'
    unfold Rep at r
    exact ⟨_, .inr ⟨i, r, of_decide_eq_true g, rfl⟩, p2⟩
  · rename_i z
    have p' : Post T io h H σ W R Q (bnd (guard' (fitB z.length)) (fun _ => kk z) h) := by
      have e : bnd (fmtD (.str z)) kk = bnd (guard' (fitB z.length)) (fun _ => kk z) := bnd_bnd _ _ _
      rw [← e]; exact p
    obtain ⟨g, p2⟩ := Post.guard p'
    unfold Rep at r
    exact ⟨z, .inl ⟨r, line_of g⟩, p2⟩
theorem ok_fmt {e : Expr} {pos : Pos} {m : Env → EM D} (he : PE X e (tE T W m)) : PE X (.FormattedValue e (-1) none pos) (tE T W fun env => bnd (m env) fun x => bnd (fmtD x) fun s => ret (.str s)) := by
  refine (pe_fmt he).imp fun σ H Q ⟨io, h, env, S, r, p⟩ => ?_
  refine step S r p fun io1 h1 d v H1 S1 G1 rd p1 => ?_
  obtain ⟨y, hy, p2⟩ := fmt_post rd p1
  rcases hy with ⟨e, hz⟩ | ⟨i, e, hz, rfl⟩
  · exact .inl ⟨y, e, hz, Post.here p2 S1 str_rep⟩
  · exact .inr ⟨i, e, hz, Post.here p2 S1 str_rep⟩
theorem ok_fcon {s : Str} {kk : Nat} {pos : Pos} : PE X (.Constant (.str s) kk pos) (tE T W fun _ => bnd (ret (.str s)) fun x => bnd (fmtD x) fun s => ret (.str s)) := by
  refine (pe_str (X := X)).imp fun σ H Q ⟨io, h, env, S, r, p⟩ => ?_
  obtain ⟨y, hy, p2⟩ := fmt_post (v := .str s) str_rep (show Post T io h H σ W (Rep T) Q (bnd (fmtD (.str s)) (fun s => ret (.str s)) h) from p)
  rcases hy with ⟨e, hz⟩ | ⟨i, e, _⟩
  · cases e
    exact Post.here p2 S str_rep
  · cases e
theorem tJs_ok {Q : Str → Hp → Prop} {Q0 : VK} {σ : L2.St} : ∀ (es : CL) {io : List Addr} {h : LH} {H : Hp} {env : Env} {acc : Str}, es.plain = true → Sim T io h H → REnv T io (fz io h H) env σ → (∀ y H', Q0 (.str y) H' → Q y H') →
    Post T io h H σ W (Rep T) Q0 (bnd (evF C es env acc) (fun s => ret (.str s)) h) → tJs (fstT T W C es) acc σ H Q
  | .nil, io, h, H, env, acc, _, S, r, f, p => by
    unfold evF at p
    exact f _ _ (Post.here p S str_rep)
  | .sta e es, _, _, _, _, _, hp, _, _, _, _ => absurd hp Bool.false_ne_true
  | .one e es, io, h, H, env, acc, hp, S, r, f, p => by
    unfold evF at p
    rw [bnd_bnd] at p
    show tE T W (fun env => bnd (evE C e env) fun x => bnd (fmtD x) fun s => ret (.str s)) σ H fun x H1 => ∃ y : Str, x = .str y ∧ (acc ++ y).length ≤ sizeLine ∧ tJs (fstT T W C es) (acc ++ y) σ H1 Q
    have q : Post T io h H σ W (Rep T) Q0 (bnd ((fun env => bnd (evE C e env) fun x => bnd (fmtD x) fun s => ret (.str s)) env) (fun (d : D) => match d with
      | D.str s => bnd (guard' (fitB (acc.length + s.length))) fun _ => bnd (evF C es env (acc ++ s)) fun s => ret (.str s)
      | _ => stk) h) := by
      have e1 : (bnd ((fun env => bnd (evE C e env) fun x => bnd (fmtD x) fun s => ret (.str s)) env) (fun (d : D) => match d with
        | D.str s => bnd (guard' (fitB (acc.length + s.length))) fun _ => bnd (evF C es env (acc ++ s)) fun s => ret (.str s)
        | _ => stk) : EM D) = bnd (evE C e env) fun x => bnd (bnd (fmtD x) fun s => bnd (guard' (fitB (acc.length + s.length))) fun _ => evF C es env (acc ++ s)) fun s => ret (.str s) := by
        simp only [bnd_bnd, bnd_ret]
      rw [e1]
      exact p
    refine step S r q fun io1 h1 d v H1 S1 G1 rd p1 => ?_
    cases d <;> try exact False.elim p1
    rename_i y
    obtain ⟨g, p2⟩ := Post.guard p1
    unfold Rep at rd
    refine ⟨y, rd, ?_, tJs_ok es hp S1 (r.grow G1) f p2⟩
    have := line_of g
    show (acc ++ y).length ≤ sizeLine
    have e : (acc ++ y).length = acc.length + y.length := by
      first | exact Str.length_append _ _ | simp [Str.length, HAppend.hAppend, Append.append, Str.append]
    omega
theorem ok_fst {es : CL} {v1 v2 : Expr} {rest : List Expr} {pos : Pos} (h : PJ X (v1 :: v2 :: rest) (fstT T W C es)) (hp : es.plain = true) : PE X (.JoinedStr (v1 :: v2 :: rest) pos) (tE T W fun env => bnd (evF C es env Str.empty) fun s => ret (.str s)) :=
  (pe_joined h).imp fun σ H Q ⟨io, hh, env, S, r, p⟩ => tJs_ok es hp S r (fun y H' q => q) p
end
end SX
end
section
set_option Elab.async false
set_option linter.all false
set_option maxRecDepth 100000
set_option maxHeartbeats 1000000
/-! SX16: zip of two sequences of any kind (lists, tuples, texts). -/
namespace SX
open PySem PySem.Spec PyProof.Rows L2
/-- what is walked -/
inductive Src where | l (a : Addr) | t (a : Addr) | s (x : Str) (k : Tok)
def Src.u : Src → Value
  | .l a => .ref a
  | .t a => .ref a
  | .s x k => .str x k
def Src.o : Src → Obj
  | .l a => { cls := .type "list_iterator", data := .fields #[.ref a, .int 0 0] }
  | .t a => { cls := .type "tuple_iterator", data := .fields #[.ref a, .int 0 0] }
  | .s x k => { cls := .type (strIterType x), data := .fields #[.str x k, .int 0 0] }
def Src.It : Src → Addr → Nat → Heap → Prop
  | .l a, it, i, h => h.IsListIter it a i
  | .t a, it, i, h => h.IsTupleIter it a i
  | .s x k, it, i, h => h.IsStrIter it (strIterType x) x k i
def Src.ads : Src → List Addr
  | .l a => [a]
  | .t a => [a]
  | .s _ _ => []
def Src.held (K : PySem.W.Frag) : Src → Hp → List V → Prop
  | .l a, H, xs => SqL K H a xs
  | .t a, H, xs => SqT K H a xs
  | .s x _, _, xs => xs = x.cps.toList.map fun c => V.str ⟨#[c]⟩
section
variable {X : Cx} {pins : List (Addr × Obj)} {σ : L2.St} {H : Hp} {s : Shared}
theorem Src.inj (I : Inv X pins σ H s) {r : Src} {xs ys : List V} (h : r.held X.K H xs) (h' : r.held X.K H ys) : xs = ys := by
  cases r with
  | l a => exact I.list_inj h h'
  | t a => exact I.tuple_inj h h'
  | s x k => exact h.trans h'.symm
theorem vals_at {xs : List V} {its : List Value} (r : Vals xs its) {i : Nat} {v : Value} (e : its.toArray[i]? = some v) : ∃ x, xs[i]? = some x ∧ RelV x v := by
  have e' : its[i]? = some v := by simpa using e
  have hl : i < its.length := (List.getElem?_eq_some_iff.mp e').1
  have hx : i < xs.length := by rw [r.length]; exact hl
  obtain ⟨u, hu, ru⟩ := r.get (List.getElem?_eq_getElem hx)
  rw [e'] at hu
  cases hu
  exact ⟨_, List.getElem?_eq_getElem hx, ru⟩
theorem Src.draws (A : Around) (hh : A.handled = none) (I : Inv X pins σ H s) {r : Src} {xs : List V} (h : r.held X.K H xs) {it : Addr} (ne : it ∉ r.ads) :
    ∃ St, Draws X.prog X.w A it (it :: r.ads) xs.length (fun i v => ∃ x, xs[i]? = some x ∧ RelV x v) St ∧ (∀ i h, St i h → r.It it i h) ∧ ∀ i, r.It it i s.heap → St i s.heap := by
  cases r with
  | l a =>
    obtain ⟨its, rv, p, _⟩ := I.list h
    have hne : a ≠ it := fun e => ne (by rw [e]; exact List.mem_cons_self)
    have D := Draws.list (prog := X.prog) (w := X.w) hh it a hne its.toArray
    have hs : its.toArray.size = xs.length := by rw [List.size_toArray, ← rv.length]
    rw [hs] at D
    exact ⟨_, ⟨D.live, D.frame, fun i s Q E hi st hQ => D.item i s Q E hi st fun x h' tk e => hQ x h' tk (vals_at rv e), D.done⟩, fun i h st => st.1, fun i st => ⟨st, p.isList⟩⟩
  | t a =>
    obtain ⟨its, rv, p, _⟩ := I.tuple h
    have hne : a ≠ it := fun e => ne (by rw [e]; exact List.mem_cons_self)
    have D := Draws.tuple (prog := X.prog) (w := X.w) hh it a hne its.toArray
    have hs : its.toArray.size = xs.length := by rw [List.size_toArray, ← rv.length]
    rw [hs] at D
    exact ⟨_, ⟨D.live, D.frame, fun i s Q E hi st hQ => D.item i s Q E hi st fun x h' tk e => hQ x h' tk (vals_at rv e), D.done⟩, fun i h st => st.1, fun i st => ⟨st, p⟩⟩
  | s x k =>
    have h : xs = x.cps.toList.map fun c => V.str ⟨#[c]⟩ := h
    have D := Draws.text (prog := X.prog) (w := X.w) hh it x k
    have hs : x.cps.size = xs.length := by rw [h, List.length_map, Array.length_toList]
    rw [hs] at D
    refine ⟨_, ⟨D.live, D.frame, fun i s Q E hi st hQ => D.item i s Q E hi st fun y h' tk e => hQ y h' tk ?_, D.done⟩, fun i h st => st, fun i st => st⟩
    obtain ⟨c, u, ec, rfl⟩ := e
    refine ⟨.str ⟨#[c]⟩, ?_, ⟨u, rfl⟩⟩
    rw [h, List.getElem?_map, Array.getElem?_toList, ec]
    rfl
theorem Src.begins (I : Inv X pins σ H s) {r : Src} {xs : List V} (h : r.held X.K H xs) : ∃ Hc, Begins r.u r.o Hc ∧ Hc s.heap := by
  cases r with
  | l a =>
    obtain ⟨its, rv, p, _⟩ := I.list h
    exact ⟨_, begins_list a its.toArray, p.isList⟩
  | t a =>
    obtain ⟨its, rv, p, _⟩ := I.tuple h
    exact ⟨_, begins_tuple a its.toArray, p⟩
  | s x k => exact ⟨_, begins_text x k, trivial⟩
theorem Src.first {r : Src} {it : Addr} {h : Heap} (e : h.get? it = some r.o) : r.It it 0 h := by
  cases r <;> exact ⟨_, e, rfl, rfl⟩
theorem Src.It.at_ {r : Src} {it : Addr} {i : Nat} {h h' : Heap} (x : r.It it i h) (k : ∀ o, h.get? it = some o → h'.get? it = some o) : r.It it i h' := by
  cases r <;> (obtain ⟨o, e, q⟩ := x; exact ⟨o, k o e, q⟩)
theorem Src.It.obj {r : Src} {it : Addr} {i : Nat} {h : Heap} (x : r.It it i h) : ∃ o, h.get? it = some o ∧ ∀ v, o.data ≠ .cell v := by
  cases r <;> (obtain ⟨o, e, _, q⟩ := x; exact ⟨o, e, fun v z => by rw [q] at z; cases z⟩)
theorem Src.lt (I : Inv X pins σ H s) {r : Src} {xs : List V} (h : r.held X.K H xs) : ∀ a ∈ r.ads, a < s.heap.objs.size := by
  cases r with
  | l a =>
    obtain ⟨its, rv, p, _⟩ := I.list h
    intro b hb
    rw [List.mem_singleton.mp hb]
    exact p.lt
  | t a =>
    obtain ⟨its, rv, ⟨o, e, _⟩, _⟩ := I.tuple h
    intro b hb
    rw [List.mem_singleton.mp hb]
    exact Heap.lt_size e
  | s x k => exact fun a h => absurd h (by simp [Src.ads])
end
/-- pairs of the items of the two -/
def ItZ (K : PySem.W.Frag) (r q : Src) : It :=
  ⟨fun i H => ∃ xs ys, r.held K H xs ∧ q.held K H ys ∧ i < xs.length ∧ i < ys.length,
    fun i H v H' => ∃ t x y, v = .ref t ∧ H t = none ∧ H' = upd H t (.tup [x, y]) ∧ (∀ xs, r.held K H xs → xs[i]? = some x) ∧ ∀ ys, q.held K H ys → ys[i]? = some y,
    fun i H => ∃ xs ys, r.held K H xs ∧ q.held K H ys ∧ i = min xs.length ys.length⟩
theorem turn_Z {P : Program} {w : World} {K : PySem.W.Frag} {elts : List Expr} {kk : Nat} {tpos : Pos} {r q : Src} {z TI TO i1 i2 : Addr} (D : ZipSep2 z TI TO i1 i2 (i1 :: r.ads) (i2 :: q.ads)) (n1 : i1 ∉ r.ads) (n2 : i2 ∉ q.ads) :
    Turn P w K (.Tuple elts kk tpos) (ItZ K r q) [z, TI, TO, i1, i2] z (fun i h => IsZip h z TI TO .none ∧ IsTupOf2 h TI (.ref i1) (.ref i2) ∧ (∃ a1 a2, IsTupOf2 h TO a1 a2) ∧ r.It i1 i h ∧ q.It i2 i h) where
  mem := by simp
  obj := fun i h st c hc => by
    obtain ⟨hz, hTI, ⟨x, y, hTO⟩, h1, h2⟩ := st
    have e' : c = z ∨ c = TI ∨ c = TO ∨ c = i1 ∨ c = i2 := by simpa using hc
    rcases e' with e | e | e | e | e
    · rw [e]; exact ⟨_, hz, fun v q => nomatch q⟩
    · rw [e]; exact ⟨_, hTI, fun v q => nomatch q⟩
    · rw [e]; exact ⟨_, hTO, fun v q => nomatch q⟩
    · rw [e]; exact h1.obj
    · rw [e]; exact h2.obj
  keep := fun i h h' st k => by
    obtain ⟨hz, hTI, ⟨x, y, hTO⟩, h1, h2⟩ := st
    exact ⟨k z (by simp) _ hz, k TI (by simp) _ hTI, ⟨x, y, k TO (by simp) _ hTO⟩, h1.at_ fun o q => k i1 (by simp) o q, h2.at_ fun o q => k i2 (by simp) o q⟩
  item := by
    intro X hP hw hK hc i pins s σ H E I hf st hg
    subst hP hw hK
    obtain ⟨hz, hTI, hTO, h1, h2⟩ := st
    obtain ⟨xs, ys, hx, hy, l1, l2⟩ := hg
    obtain ⟨St1, D1, a1, b1⟩ := Src.draws X.A.in1 (I.ok.hd hc) I hx n1
    obtain ⟨St2, D2, a2, b2⟩ := Src.draws X.A.in1 (I.ok.hd hc) I hy n2
    have W := WalksT.zipD2 D D1 D2
    have hzl : z < s.heap.objs.size := Heap.lt_size hz
    refine W.item i s _ _ (Nat.lt_min.mpr ⟨l1, l2⟩) ⟨hz, hTI, hTO, b1 i h1, b2 i h2⟩ fun T vals h' tk hv hTs hT hm hk => ?_
    obtain ⟨v1, v2, ⟨x, ex, rx⟩, ⟨y, ey, ry⟩, rfl⟩ := hv
    refine ⟨_, rfl, W.go elts kk tpos i T { s with heap := h', toks := tk } _ _ hm fun h'' st' hk' => ?_⟩
    have wrT : T ∉ [z, TO, i1, i2] := W.apart i T h' hm
    obtain ⟨oT, eT, cT, nT, dT⟩ := hT
    have hT2 : h''.get? T = some oT := hk' T oT wrT eT
    have new : ObjOk X.prog X.w (upd H T (.tup [x, y])) h'' T (.tup [x, y]) :=
      ⟨by show 2 ≤ sizeLine; decide, [v1, v2], .cons rx (.cons ry .nil), ⟨oT, hT2, cT, nT, dT⟩⟩
    have sub : ∀ c, c ∉ [z, TI, TO, i1, i2] → c ∉ [z, TO, i1, i2] := fun c hc z' => hc (by
      rcases List.mem_cons.mp z' with e | z'
      · rw [e]; simp
      · rcases List.mem_cons.mp z' with e | z'
        · rw [e]; simp
        · rcases List.mem_cons.mp z' with e | z'
          · rw [e]; simp
          · rw [List.mem_singleton.mp z']; simp)
    have I1 : Inv X pins σ (upd H T (.tup [x, y])) { s with heap := h'', toks := tk } :=
      I.turnedNew (ch := [z, TI, TO, i1, i2]) (fun c o hb e => hk' c o (sub c hb) (hk c o (sub c hb) e)) hf hTs new
    refine ⟨.ref T, _, I1, rfl, ⟨T, x, y, rfl, I.hok.fresh hTs, rfl, fun l hl => by rw [Src.inj I hl hx]; exact ex, fun l hl => by rw [Src.inj I hl hy]; exact ey⟩, ⟨st'.1, st'.2.1, st'.2.2.1, a1 _ _ st'.2.2.2.1, a2 _ _ st'.2.2.2.2⟩, fun c hcm => ?_⟩
    have hlt : c < s.heap.objs.size := by
      have e' : c = z ∨ c = TI ∨ c = TO ∨ c = i1 ∨ c = i2 := by simpa using hcm
      rcases e' with e | e | e | e | e
      · rw [e]; exact hzl
      · rw [e]; exact Heap.lt_size hTI
      · rw [e]; obtain ⟨_, _, q⟩ := hTO; exact Heap.lt_size q
      · rw [e]; obtain ⟨_, e1, _⟩ := h1.obj; exact Heap.lt_size e1
      · rw [e]; obtain ⟨_, e2, _⟩ := h2.obj; exact Heap.lt_size e2
    rw [upd_ne (Nat.ne_of_lt (Nat.lt_of_lt_of_le hlt hTs))]
    exact (hf c hcm).1
  done := by
    intro X hP hw hK hc i pins s σ H E I hf st hg
    subst hP hw hK
    obtain ⟨hz, hTI, hTO, h1, h2⟩ := st
    obtain ⟨xs, ys, hx, hy, rfl⟩ := hg
    obtain ⟨St1, D1, a1, b1⟩ := Src.draws X.A.in1 (I.ok.hd hc) I hx n1
    obtain ⟨St2, D2, a2, b2⟩ := Src.draws X.A.in1 (I.ok.hd hc) I hy n2
    have W := WalksT.zipD2 D D1 D2
    refine W.done s _ _ ⟨hz, hTI, hTO, b1 _ h1, b2 _ h2⟩ fun h' tk hk => ⟨rfl, I.turnedL (ch := [z, TI, TO, i1, i2]) (fun c o hb e => hk c o (fun z' => hb ?_) e) hf⟩
    rcases List.mem_cons.mp z' with e | z'
    · rw [e]; simp
    · rcases List.mem_cons.mp z' with e | z'
      · rw [e]; simp
      · rcases List.mem_cons.mp z' with e | z'
        · rw [e]; simp
        · rw [List.mem_singleton.mp z']; simp
  self := fun A i s Q E st h => wpAny_pyIter_zip st.1 h
/-- the two values, seen as what is walked -/
def iZ (K : PySem.W.Frag) (ta : TA) : TI := fun σ H R => ta σ H fun vs H1 => ∃ v w xs ys, vs = [v, w] ∧ ∀ u1 u2, RelV v u1 → RelV w u2 → ∃ r q : Src, r.u = u1 ∧ q.u = u2 ∧ r.held K H1 xs ∧ q.held K H1 ys ∧ R (ItZ K r q) H1
theorem pi_Z {X : Cx} {e e2 : Expr} {ta : TA} {p pos tpos : Pos} {elts : List Expr} {kk : Nat} (hg : Gl X "zip") (hm : X.mg "zip" = none) (ha : PA X [e, e2] ta)
    (hs : starEach [e, e2] X.env = (false, eval e X.env) :: starEach [e2] X.env) (hpl : (backTo pos (starEach [e2] X.env)).any (·.1) = false) :
    PI X (.Tuple elts kk tpos) (.Call (.Name "zip" p) [e, e2] [] pos) (iZ X.K ta) := by
  refine ⟨fun pins s σ H R I h => ?_⟩
  refine Call_ (ld_blt I hg hm PyProof.Rows.boot_zip (PyProof.Rows.callWith_type1 (thn (ha.run pos pins s σ H _ I h) fun us s1 ⟨vs, H1, I1, r1, q1⟩ => ?_) hs hpl))
  obtain ⟨v, w, xs, ys, ex, q1⟩ := q1
  subst ex
  obtain ⟨u1, u2, rfl, rv, rw2⟩ := vals2 r1
  obtain ⟨r, q, rfl, rfl, hr, hq, qq⟩ := q1 u1 u2 rv rw2
  obtain ⟨Hc1, B1, c1⟩ := Src.begins I1 hr
  obtain ⟨Hc2, B2, c2⟩ := Src.begins I1 hq
  refine zip_begins2 B1 B2 c1 c2 fun h' hz hTI hTO h1 h2 hsz hk => wpAny_pyIter_zip hz ?_
  have I2 : Inv X pins σ H1 { s1 with heap := h' } := I1.kept (t' := s1.toks) hk
  have lr := Src.lt I1 hr
  have lq := Src.lt I1 hq
  have A : ∀ i j : Nat, i ≠ j → (s1.heap.objs.size + i : Nat) ≠ s1.heap.objs.size + j := fun i j h e => h (Nat.add_left_cancel e)
  have nr : ∀ k, s1.heap.objs.size + k ∉ r.ads := fun k z => absurd (lr _ z) (Nat.not_lt.mpr (Nat.le_add_right _ _))
  have nq : ∀ k, s1.heap.objs.size + k ∉ q.ads := fun k z => absurd (lq _ z) (Nat.not_lt.mpr (Nat.le_add_right _ _))
  have D : ZipSep2 (s1.heap.objs.size + 4) (s1.heap.objs.size + 2) (s1.heap.objs.size + 3) s1.heap.objs.size (s1.heap.objs.size + 1) (s1.heap.objs.size :: r.ads) ((s1.heap.objs.size + 1) :: q.ads) := by
    refine ⟨A 2 4 (by decide), A 3 4 (by decide), A 2 3 (by decide), A 2 0 (by decide), List.mem_cons_self, ?_, ?_, A 2 1 (by decide), List.mem_cons_self, ?_, ?_, ?_, ?_⟩
    · exact fun z => (List.mem_cons.mp z).elim (A 4 0 (by decide)) (nr 4)
    · exact fun z => (List.mem_cons.mp z).elim (A 3 0 (by decide)) (nr 3)
    · exact fun z => (List.mem_cons.mp z).elim (A 4 1 (by decide)) (nq 4)
    · exact fun z => (List.mem_cons.mp z).elim (A 3 1 (by decide)) (nq 3)
    · exact fun z => (List.mem_cons.mp z).elim (A 0 1 (by decide)) (nq 0)
    · exact fun z => (List.mem_cons.mp z).elim (A 1 0 (by decide)) (nr 1)
  refine ⟨s1.heap.objs.size + 4, [s1.heap.objs.size + 4, s1.heap.objs.size + 2, s1.heap.objs.size + 3, s1.heap.objs.size, s1.heap.objs.size + 1], _, _, H1, rfl, I2, turn_Z D (nr 0) (nq 1), ⟨hz, hTI, ⟨_, _, hTO⟩, Src.first h1, Src.first h2⟩, fun c hcm => ?_, qq⟩
  have e' : c = s1.heap.objs.size + 4 ∨ c = s1.heap.objs.size + 2 ∨ c = s1.heap.objs.size + 3 ∨ c = s1.heap.objs.size ∨ c = s1.heap.objs.size + 1 := by simpa using hcm
  have hle : s1.heap.objs.size ≤ c := by
    rcases e' with z | z | z | z | z
    · rw [z]; exact Nat.le_add_right _ _
    · rw [z]; exact Nat.le_add_right _ _
    · rw [z]; exact Nat.le_add_right _ _
    · rw [z]; exact Nat.le_refl _
    · rw [z]; exact Nat.le_add_right _ _
  exact I1.fpOk hle (I1.hok.fresh hle)
end SX
end
section
set_option Elab.async false
set_option linter.all false
set_option maxRecDepth 100000
set_option maxHeartbeats 1000000
/-! SX17: what loops walk. -/
namespace SX
open PySem PySem.Spec PyProof.Rows L2
structure ItOk (T : Tab) (io : List Addr) (F : Hp) (its : List D) (J : It) : Prop where
  go : ∀ i io' h' H', Sim T io' h' H' → Pre io io' → L2.Same F (fz io' h' H') → i < its.length → J.go i H'
  stop : ∀ io' h' H', Sim T io' h' H' → Pre io io' → L2.Same F (fz io' h' H') → J.stop its.length H'
  yld : ∀ i d io' h' H' x H'', Sim T io' h' H' → Pre io io' → L2.Same F (fz io' h' H') → its[i]? = some d → J.yld i H' x H'' → Sim T io' h' H'' ∧ Grow io' h' H' io' h' H'' ∧ Rep T io' (fz io' h' H'') d x
abbrev iM (T : Tab) (W : WX) (m : Env → EM (List D)) : TI := fun σ H R => tM T W (ItOk T) m σ H R
section
variable {X : Cx} {T : Tab} {W : WX} {C : Ctx} {k : Nat} {tg : Expr}
theorem Reps.mk {io : List Addr} {F : Hp} {l : List D} {xs : List V} (h1 : l.length = xs.length) (h2 : ∀ (i : Nat) d, l[i]? = some d → ∃ x, xs[i]? = some x ∧ Rep T io F d x) : Reps T io F l xs :=
  Reps.of_get h1 fun i d x e1 e2 => by
    obtain ⟨y, e3, r⟩ := h2 i d e1
    rw [e2] at e3
    cases e3
    exact r
/-- an iterator over a sequence that stands frozen -/
theorem itok_seq {J : It} {hd : Hp → List V → Prop} {io : List Addr} {F : Hp} {l : List D} {xs : List V} (hg : ∀ i H, i < xs.length → hd H xs → J.go i H) (hs : ∀ H, hd H xs → J.stop xs.length H) (hy : ∀ i H x H', J.yld i H x H' → hd H xs → H' = H ∧ xs[i]? = some x)
    (hh : ∀ H', L2.Same F H' → hd H' xs) (r : Reps T io F l xs) : ItOk T io F l J := by
  have hl := r.length
  refine ⟨fun i io' h' H' S p s hi => hg i H' (by omega) (hh _ (L2.Same.trans s fz_le)), fun io' h' H' S p s => by rw [hl]; exact hs H' (hh _ (L2.Same.trans s fz_le)), fun i d io' h' H' x H'' S p s e y => ?_⟩
  obtain ⟨rfl, ex⟩ := hy i H' x H'' y (hh _ (L2.Same.trans s fz_le))
  obtain ⟨x', ex', rx⟩ := (r.mono p s).get e
  rw [ex] at ex'
  cases ex'
  exact ⟨S, Grow.refl _ _ _, rx⟩
theorem itok_list {io : List Addr} {F : Hp} {l : List D} {xs : List V} {a : Addr} (h : SqL X.K F a xs) (r : Reps T io F l xs) : ItOk T io F l (Itl X.K a) :=
  itok_seq (hd := fun H xs => SqL X.K H a xs) (fun i H hi q => ⟨xs, _, q, List.getElem?_eq_getElem hi⟩) (fun H q => ⟨xs, q, Nat.le_refl _⟩) (fun i H x H' y q => ⟨y.1, y.2 xs q⟩) (fun H' s => L2.Same.seq s h) r
theorem itok_tup {io : List Addr} {F : Hp} {l : List D} {xs : List V} {a : Addr} (h : SqT X.K F a xs) (r : Reps T io F l xs) : ItOk T io F l (Itt X.K a) :=
  itok_seq (hd := fun H xs => SqT X.K H a xs) (fun i H hi q => ⟨xs, _, q, List.getElem?_eq_getElem hi⟩) (fun H q => ⟨xs, q, Nat.le_refl _⟩) (fun i H x H' y q => ⟨y.1, y.2 xs q⟩) (fun H' s => Same.seqT s h) r
theorem itok_str {io : List Addr} {F : Hp} {z : Str} : ItOk T io F (z.cps.toList.map fun c => .str ⟨#[c]⟩) (Its z) := by
  refine ⟨fun i io' h' H' S p s hi => ?_, fun io' h' H' S p s => ?_, fun i d io' h' H' x H'' S p s e y => ?_⟩
  · rw [List.length_map, Array.length_toList] at hi; exact hi
  · show z.cps.size ≤ _; rw [List.length_map, Array.length_toList]; exact Nat.le_refl _
  · obtain ⟨rfl, c, ec, rfl⟩ := y
    rw [List.getElem?_map, Array.getElem?_toList, ec] at e
    cases e
    exact ⟨S, Grow.refl _ _ _, str_rep⟩
/-- a sequence's items, its kind -/
inductive SqK (K : PySem.W.Frag) (F : Hp) : V → List V → Prop where
  | l {a : Addr} {xs : List V} (h : SqL K F a xs) : SqK K F (.ref a) xs
  | t {a : Addr} {xs : List V} (h : SqT K F a xs) : SqK K F (.ref a) xs
  | s (z : Str) : SqK K F (.str z) (z.cps.toList.map fun c => .str ⟨#[c]⟩)
theorem chars_reps {io : List Addr} {F : Hp} : ∀ l : List Nat, Reps T io F (l.map fun c => D.str ⟨#[c]⟩) (l.map fun c => V.str ⟨#[c]⟩)
  | [] => Reps.nil
  | c :: l => Reps.cons str_rep (chars_reps l)
theorem rep_str_inv {io : List Addr} {F : Hp} {d : D} {z : Str} (r : Rep T io F d (.str z)) : d = .str z := by
  cases d <;> unfold Rep at r
  case str y => rw [V.str.inj r]
  all_goals first | (cases r; done) | (obtain ⟨_, _, e, _⟩ := r; cases e; done) | (obtain ⟨_, _, _, e, _⟩ := r; cases e; done) | (obtain ⟨_, e, _⟩ := r; cases e; done)
theorem rep_chars {io : List Addr} {F : Hp} : ∀ {cs : List Nat} {l : List D}, Reps T io F l (cs.map fun c => V.str ⟨#[c]⟩) → l = cs.map fun c => D.str ⟨#[c]⟩
  | [], [], _ => rfl
  | [], _ :: _, r => by have := r.length; cases this
  | _ :: _, [], r => by have := r.length; cases this
  | c :: cs, d :: l, r => by
    unfold Reps at r
    obtain ⟨x, ys, e, h, z⟩ := r
    rw [List.map_cons] at e
    injection e with e1 e2
    subst e1 e2
    rw [rep_str_inv h, rep_chars z]
    rfl
theorem its_post {io : List Addr} {h : LH} {H : Hp} {σ : L2.St} {γ β : Type} {R : List Addr → Hp → γ → β → Prop} {Q : β → Hp → Prop} {kk : List D → EM γ} {d : D} {v : V} (hT : T.K = X.K) (r : Rep T io (fz io h H) d v) (p : Post T io h H σ W R Q (bnd (itsD d) kk h)) :
    ∃ l xs, SqK X.K (fz io h H) v xs ∧ Reps T io (fz io h H) l xs ∧ Post T io h H σ W R Q (kk l h) := by
  cases d <;> try exact False.elim p
  case str z =>
    unfold Rep at r
    subst r
    exact ⟨_, _, .s z, chars_reps _, p⟩
  case tup l =>
    unfold Rep at r
    obtain ⟨a, xs, rfl, e, z⟩ := r
    exact ⟨l, xs, .t (hT ▸ e), z, p⟩
  case lst l =>
    unfold Rep at r
    obtain ⟨a, xs, rfl, e, z⟩ := r
    exact ⟨l, xs, .l (SqL.of e), z, p⟩
  case rol l =>
    unfold Rep at r
    obtain ⟨a, xs, rfl, e, z⟩ := r
    exact ⟨l, xs, .l (hT ▸ e), z, p⟩
theorem SqK.up {K : PySem.W.Frag} {F H : Hp} {v : V} {xs : List V} (s : L2.Same F H) (h : SqK K F v xs) : SqK K H v xs := by
  cases h with
  | l h => exact .l (L2.Same.seq s h)
  | t h => exact .t (Same.seqT s h)
  | s z => exact .s z
theorem oi_seq {e : Expr} {m : Env → EM D} (hT : T.K = X.K) (he : PE X e (tE T W m)) : PI X tg e (iM T W fun env => bnd (m env) itsD) := by
  refine ⟨fun pins s σ H R I ⟨io, h, env, S, r, p⟩ => ?_⟩
  refine thn (he.run pins s σ H _ I (step S r p fun io1 h1 d v H1 S1 G1 rd p1 => show (fun v H1 => ∃ io1 h1 d, Sim T io1 h1 H1 ∧ Rep T io1 (fz io1 h1 H1) d v ∧ Post T io1 h1 H1 σ W (ItOk T) R (itsD d h1)) v H1 from ⟨io1, h1, d, S1, rd, p1⟩)) fun u s1 ⟨v, H1, I1, rv, io1, h1, d, S1, rd, p1⟩ => ?_
  rw [← bnd_pure (itsD d)] at p1
  obtain ⟨l, xs, hk, rl, p2⟩ := its_post hT rd p1
  cases hk with
  | @l a xs hl =>
    cases rv
    have hl' := L2.Same.seq fz_le hl
    obtain ⟨its, rv, p, hz⟩ := I1.list hl'
    exact wpAny_pyIter_list p.isList (pi_one (tk := s1.toks) I1 _ (turn_list a _) ⟨_, Heap.get?_push_size _ rfl, rfl, rfl⟩ (Post.here p2 S1 (itok_list hl rl)))
  | @t a xs hl =>
    cases rv
    have hl' := Same.seqT fz_le hl
    obtain ⟨its, rv, p, hz⟩ := I1.tuple hl'
    exact wpAny_pyIter_tuple (show s1.heap.IsTuple a its.toArray from p) (pi_one (tk := s1.toks) I1 _ (turn_tuple a _) ⟨_, Heap.get?_push_size _ rfl, rfl, rfl⟩ (Post.here p2 S1 (itok_tup hl rl)))
  | s z =>
    obtain ⟨t, rfl⟩ := rv
    have hi : ItOk T io1 (fz io1 h1 H1) l (Its z) := by
      rw [rep_chars rl]; exact itok_str
    cases ha : z.cps.all (· < 128)
    · exact wpAny_pyIter_wide ha (pi_one (tk := s1.toks) I1 _ (turn_str _ z t "str_iterator" (.inr rfl)) ⟨_, Heap.get?_push_size _ rfl, rfl, rfl⟩ (Post.here p2 S1 hi))
    · exact wpAny_pyIter_ascii ha (pi_one (tk := s1.toks) I1 _ (turn_str _ z t "str_ascii_iterator" (.inl rfl)) ⟨_, Heap.get?_push_size _ rfl, rfl, rfl⟩ (Post.here p2 S1 hi))
/-! ### ranges -/
theorem itok_rng {io : List Addr} {F : Hp} {lo : Int} {n : Nat} : ItOk T io F ((List.range n).map fun i => D.int (lo + (i : Nat))) (Itr lo n) := by
  refine ⟨fun i io' h' H' S p s hi => ?_, fun io' h' H' S p s => ?_, fun i d io' h' H' x H'' S p s e y => ?_⟩
  · rw [List.length_map, List.length_range] at hi; exact hi
  · show n ≤ _; rw [List.length_map, List.length_range]; exact Nat.le_refl _
  · obtain ⟨rfl, rfl⟩ := y
    rw [List.getElem?_map] at e
    by_cases hi : i < n
    · rw [List.getElem?_range hi] at e
      cases e
      exact ⟨S, Grow.refl _ _ _, int_rep⟩
    · rw [List.getElem?_eq_none (by rw [List.length_range]; omega)] at e
      cases e
theorem itok_rngC {io : List Addr} {F : Hp} {lo c : Int} {n : Nat} : ItOk T io F ((List.range n).map fun i => D.int (lo + (i : Nat) * c)) (Itc lo c n) := by
  refine ⟨fun i io' h' H' S p s hi => ?_, fun io' h' H' S p s => ?_, fun i d io' h' H' x H'' S p s e y => ?_⟩
  · rw [List.length_map, List.length_range] at hi; exact hi
  · show n ≤ _; rw [List.length_map, List.length_range]; exact Nat.le_refl _
  · obtain ⟨rfl, rfl⟩ := y
    rw [List.getElem?_map] at e
    by_cases hi : i < n
    · rw [List.getElem?_range hi] at e
      cases e
      exact ⟨S, Grow.refl _ _ _, int_rep⟩
    · rw [List.getElem?_eq_none (by rw [List.length_range]; omega)] at e
      cases e
theorem oi_rng {e : Expr} {m : Env → EM D} {p pos : Pos} (hg : Gl X "range") (hm : X.mg "range" = none) (hp : plainArgs [e] = true) (he : PE X e (tE T W m)) : PI X tg (.Call (.Name "range" p) [e] [] pos) (iM T W fun env => bnd (m env) rngM) := by
  have hs := plain_cons hp X.env
  refine ⟨fun pins s σ H R I ⟨io, h, env, S, r, q⟩ => (pi_range1 (tg := tg) hg hm (pa_cons he pa_nil hs) hs).run pins s σ H R I ?_⟩
  refine step S r q fun io1 h1 d v H1 S1 G1 rd p1 => ?_
  cases d <;> try exact False.elim p1
  rename_i n
  obtain ⟨g, p2⟩ := Post.guard p1
  have g' := Bool.and_eq_true_iff.mp g
  unfold Rep at rd
  subst rd
  refine ⟨n, rfl, of_decide_eq_true g'.1, ?_, ?_⟩
  · have := of_decide_eq_true g'.2; omega
  · have e : ((List.range n.toNat).map fun i => D.int (i : Nat)) = (List.range n.toNat).map fun i => D.int (0 + (i : Nat)) := by simp
    rw [e] at p2
    exact Post.here p2 S1 itok_rng
theorem oi_rng2 {e e2 : Expr} {m m2 : Env → EM D} {p pos : Pos} (hg : Gl X "range") (hm : X.mg "range" = none) (hp : plainArgs [e, e2] = true) (he : PE X e (tE T W m)) (he2 : PE X e2 (tE T W m2)) : PI X tg (.Call (.Name "range" p) [e, e2] [] pos) (iM T W fun env => bnd (m env) fun x => bnd (m2 env) fun y => rng2M x y) := by
  have hs := plain_cons hp X.env
  have hs2 := plain_cons (plain_tail hp) X.env
  refine ⟨fun pins s σ H R I ⟨io, h, env, S, r, q⟩ => (pi_range2 (tg := tg) hg hm (pa_cons he (pa_cons he2 pa_nil hs2) hs) (by rw [hs, hs2]; rfl) (by rw [hs2]; rfl)).run pins s σ H R I ?_⟩
  refine step S r q fun io1 h1 d v H1 S1 G1 rd p1 => ?_
  refine step S1 (r.grow G1) p1 fun io2 h2 d2 v2 H2 S2 G2 rd2 p2 => ?_
  cases d <;> cases d2 <;> try exact False.elim p2
  rename_i m n
  obtain ⟨g, p3⟩ := Post.guard p2
  simp only [Bool.and_eq_true, decide_eq_true_eq] at g
  unfold Rep at rd rd2
  subst rd rd2
  exact ⟨m, n, rfl, ⟨g.1.1.1.1, g.1.1.1.2, g.1.1.2, g.1.2⟩, Post.here p3 S2 itok_rng⟩
theorem oi_rng3 {e e2 e3 : Expr} {c : Int} {m m2 : Env → EM D} {p pos : Pos} (hg : Gl X "range") (hm : X.mg "range" = none) (hp : plainArgs [e, e2, e3] = true) (he : PE X e (tE T W m)) (he2 : PE X e2 (tE T W m2)) (he3 : PE X e3 (tC (.int c))) : PI X tg (.Call (.Name "range" p) [e, e2, e3] [] pos) (iM T W fun env => bnd (m env) fun x => bnd (m2 env) fun y => rng3M c x y) := by
  have hs := plain_cons hp X.env
  have hs2 := plain_cons (plain_tail hp) X.env
  have hs3 := plain_cons (plain_tail (plain_tail hp)) X.env
  refine ⟨fun pins s σ H R I ⟨io, h, env, S, r, q⟩ => (pi_range3 (tg := tg) hg hm (pa_cons he (pa_cons he2 (pa_cons he3 pa_nil hs3) hs2) hs) hs (plain_any (plain_tail hp) _ _)).run pins s σ H R I ?_⟩
  refine step S r q fun io1 h1 d v H1 S1 G1 rd p1 => ?_
  refine step S1 (r.grow G1) p1 fun io2 h2 d2 v2 H2 S2 G2 rd2 p2 => ?_
  cases d <;> cases d2 <;> try exact False.elim p2
  rename_i m n
  obtain ⟨g, p3⟩ := Post.guard p2
  simp only [Bool.and_eq_true, decide_eq_true_eq] at g
  unfold Rep at rd rd2
  subst rd rd2
  have hc := g.1.1.1.1.1
  subst hc
  exact ⟨m, n, -1, (m - n).toNat, rfl, RgC.neg g.1.1.1.1.2 g.1.1.1.2 g.1.1.2 g.1.2, Post.here p3 S2 itok_rngC⟩
/-! ### enumerate -/
theorem enu_at {l : List D} {i : Nat} {d : D} (e : (enuD l)[i]? = some d) : ∃ x, l[i]? = some x ∧ d = .tup [.int (i : Nat), x] := by
  unfold enuD at e
  rw [List.getElem?_map, List.getElem?_zipIdx] at e
  cases q : l[i]? with
  | none => rw [q] at e; cases e
  | some x =>
    rw [q] at e
    refine ⟨x, rfl, ?_⟩
    have e' := (Option.some.inj e).symm
    simpa using e'
theorem itok_enu {io : List Addr} {F : Hp} {l : List D} {xs : List V} {a : Addr} (h : F a = some (.lst xs)) (r : Reps T io F l xs) : ItOk T io F (enuD l) (Ite X.K a) := by
  have hl : (enuD l).length = xs.length := by
    unfold enuD
    rw [List.length_map, List.length_zipIdx]
    exact r.length
  have q : ∀ {H' : Hp}, L2.Same F H' → SqL X.K H' a xs := fun s => SqL.of (s _ _ h)
  refine ⟨fun i io' h' H' S p s hi => ⟨xs, _, q (L2.Same.trans s fz_le), List.getElem?_eq_getElem (by omega)⟩, fun io' h' H' S p s => ⟨xs, q (L2.Same.trans s fz_le), by omega⟩, fun i d io' h' H' x H'' S p s e y => ?_⟩
  obtain ⟨t, v, rfl, hn, rfl, hv⟩ := y
  obtain ⟨dd, e1, rfl⟩ := enu_at e
  obtain ⟨v', e2, rv⟩ := (r.mono p s).get e1
  have e3 := hv xs (q (L2.Same.trans s fz_le))
  rw [e2] at e3
  cases e3
  obtain ⟨S', G⟩ := S.alloc (.tup [.int (i : Nat), v]) hn
  refine ⟨S', G, ?_⟩
  unfold Rep
  exact ⟨t, _, rfl, .inl (.inl (fz_new S hn)), Reps.cons int_rep (Reps.cons (rv.grow G) Reps.nil)⟩
theorem oi_enu {e : Expr} {m : Env → EM D} {p pos tpos : Pos} {elts : List Expr} {kk : Nat} (hg : Gl X "enumerate") (hm : X.mg "enumerate" = none) (hp : plainArgs [e] = true) (he : PE X e (tE T W m)) :
    PI X (.Tuple elts kk tpos) (.Call (.Name "enumerate" p) [e] [] pos) (iM T W fun env => bnd (m env) enuM) := by
  have hs := plain_cons hp X.env
  refine ⟨fun pins s σ H R I ⟨io, h, env, S, r, q⟩ => (pi_enum (elts := elts) (kk := kk) (tpos := tpos) hg hm (pa_cons he pa_nil hs) hs).run pins s σ H R I ?_⟩
  refine step S r q fun io1 h1 d v H1 S1 G1 rd p1 => ?_
  cases d <;> try exact False.elim p1
  unfold Rep at rd
  obtain ⟨a, xs, rfl, e, z⟩ := rd
  exact ⟨a, xs, rfl, SqL.of (fz_some e), Post.here p1 S1 (itok_enu e z)⟩
/-! ### zip -/
theorem zip_at {l k : List D} {i : Nat} {d : D} (e : ((l.zip k).map fun p => D.tup [p.1, p.2])[i]? = some d) : ∃ x y, l[i]? = some x ∧ k[i]? = some y ∧ d = .tup [x, y] := by
  rw [List.getElem?_map] at e
  cases q : (l.zip k)[i]? with
  | none => rw [q] at e; cases e
  | some z =>
    rw [q] at e
    obtain ⟨h1, h2⟩ := List.getElem?_zip_eq_some.mp q
    exact ⟨_, _, h1, h2, (Option.some.inj e).symm⟩
theorem src_of {F H : Hp} {v : V} {u : Value} {xs : List V} (h : SqK X.K F v xs) (r : RelV v u) : ∃ q : Src, q.u = u ∧ ∀ H, L2.Same F H → q.held X.K H xs := by
  cases h with
  | @l a xs h => cases r; exact ⟨.l a, rfl, fun H s => L2.Same.seq s h⟩
  | @t a xs h => cases r; exact ⟨.t a, rfl, fun H s => Same.seqT s h⟩
  | s z => obtain ⟨t, rfl⟩ := r; exact ⟨.s z t, rfl, fun H s => rfl⟩
theorem itok_zip {io : List Addr} {F : Hp} {l k : List D} {xs ys : List V} {r q : Src} (hr : ∀ H, L2.Same F H → r.held X.K H xs) (hq : ∀ H, L2.Same F H → q.held X.K H ys) (rl : Reps T io F l xs) (rk : Reps T io F k ys) :
    ItOk T io F ((l.zip k).map fun p => .tup [p.1, p.2]) (ItZ X.K r q) := by
  have hl := rl.length
  have hk := rk.length
  have hz : ((l.zip k).map fun p => D.tup [p.1, p.2]).length = min xs.length ys.length := by rw [List.length_map, List.length_zip, hl, hk]
  refine ⟨fun i io' h' H' S p s hi => ?_, fun io' h' H' S p s => ?_, fun i d io' h' H' x H'' S p s e y => ?_⟩
  · rw [hz] at hi
    obtain ⟨h1, h2⟩ := Nat.lt_min.mp hi
    exact ⟨xs, ys, hr _ (L2.Same.trans s fz_le), hq _ (L2.Same.trans s fz_le), h1, h2⟩
  · exact ⟨xs, ys, hr _ (L2.Same.trans s fz_le), hq _ (L2.Same.trans s fz_le), hz⟩
  · obtain ⟨t, v, w, rfl, hn, rfl, hv, hw⟩ := y
    obtain ⟨d1, d2, e1, e2, rfl⟩ := zip_at e
    obtain ⟨v', f1, rv⟩ := (rl.mono p s).get e1
    obtain ⟨w', f2, rw'⟩ := (rk.mono p s).get e2
    have g1 := hv xs (hr _ (L2.Same.trans s fz_le))
    have g2 := hw ys (hq _ (L2.Same.trans s fz_le))
    rw [f1] at g1
    rw [f2] at g2
    cases g1
    cases g2
    obtain ⟨S', G⟩ := S.alloc (.tup [v, w]) hn
    refine ⟨S', G, ?_⟩
    unfold Rep
    exact ⟨t, _, rfl, .inl (.inl (fz_new S hn)), Reps.cons (rv.grow G) (Reps.cons (rw'.grow G) Reps.nil)⟩
theorem oi_zip {e e2 : Expr} {m m2 : Env → EM D} {p pos tpos : Pos} {elts : List Expr} {kk : Nat} (hT : T.K = X.K) (hg : Gl X "zip") (hm : X.mg "zip" = none) (hp : plainArgs [e, e2] = true) (he : PE X e (tE T W m)) (he2 : PE X e2 (tE T W m2)) :
    PI X (.Tuple elts kk tpos) (.Call (.Name "zip" p) [e, e2] [] pos) (iM T W fun env => bnd (m env) fun x => bnd (m2 env) fun y => zipM x y) := by
  have hs := plain_cons hp X.env
  have hs2 := plain_cons (plain_tail hp) X.env
  refine ⟨fun pins s σ H R I ⟨io, h, env, S, r, q⟩ => (pi_Z (elts := elts) (kk := kk) (tpos := tpos) hg hm (pa_cons he (pa_cons he2 pa_nil hs2) hs) hs (plain_any (plain_tail hp) _ _)).run pins s σ H R I ?_⟩
  refine step S r q fun io1 h1 d v H1 S1 G1 rd p1 => ?_
  refine step S1 (r.grow G1) p1 fun io2 h2 d2 v2 H2 S2 G2 rd2 p2 => ?_
  have rd' := rd.grow G2
  unfold zipM at p2
  obtain ⟨l, xs, hx, rl, p3⟩ := its_post hT rd' p2
  obtain ⟨k, ys, hy, rk, p4⟩ := its_post hT rd2 p3
  refine ⟨v, v2, xs, ys, rfl, fun u1 u2 r1 r2 => ?_⟩
  obtain ⟨q1, e1, f1⟩ := src_of (H := H2) hx r1
  obtain ⟨q2, e2, f2⟩ := src_of (H := H2) hy r2
  exact ⟨q1, q2, e1, e2, f1 _ fz_le, f2 _ fz_le, Post.here p4 S2 (itok_zip f1 f2 rl rk)⟩
end
end SX
end
section
set_option Elab.async false
set_option linter.all false
set_option maxRecDepth 100000
set_option maxHeartbeats 1000000
/-! SX18: targets. -/
namespace SX
open PySem PySem.Spec PyProof.Rows L2
def noSlice : Expr → Bool
  | .Slice _ _ _ _ => false
  | _ => true
/-- only these slots may have changed -/
def Off (ix : List Nat) (σ σ' : L2.St) : Prop := σ'.length = σ.length ∧ ∀ j, j ∉ ix → σ'[j]? = σ[j]?
theorem Off.refl (ix : List Nat) (σ : L2.St) : Off ix σ σ := ⟨rfl, fun _ _ => rfl⟩
theorem Off.set (σ : L2.St) (i : Nat) (v : Option V) : Off [i] σ (σ.set i v) := ⟨List.length_set, fun j hj => List.getElem?_set_ne fun e => hj (by rw [e]; exact List.mem_singleton.mpr rfl)⟩
theorem Off.trans {a b : List Nat} {σ σ1 σ2 : L2.St} (h : Off a σ σ1) (k : Off b σ1 σ2) : Off (a ++ b) σ σ2 :=
  ⟨k.1.trans h.1, fun j hj => (k.2 j fun z => hj (List.mem_append_right _ z)).trans (h.2 j fun z => hj (List.mem_append_left _ z))⟩
theorem Off.mono {a b : List Nat} {σ σ1 : L2.St} (h : Off a σ σ1) (s : ∀ i ∈ a, i ∈ b) : Off b σ σ1 := ⟨h.1, fun j hj => h.2 j fun z => hj (s j z)⟩
abbrev RE (T : Tab) (ix : List Nat) (σ : L2.St) : List Addr → Hp → Env → L2.St → Prop := fun io F env σ' => REnv T io F env σ' ∧ Off ix σ σ'
def gM (T : Tab) (ix : List Nat) (m : D → Env → EM Env) : TG := fun v σ H Q => ∃ io h env d, Sim T io h H ∧ REnv T io (fz io h H) env σ ∧ Rep T io (fz io h H) d v ∧ Post T io h H [] NoW (RE T ix σ) Q (m d env h)
def gMs (T : Tab) (ix : List Nat) (m : List D → Env → EM Env) : TGs := fun vs σ H Q => ∃ io h env ds, Sim T io h H ∧ REnv T io (fz io h H) env σ ∧ Reps T io (fz io h H) ds vs ∧ Post T io h H [] NoW (RE T ix σ) Q (m ds env h)
section
variable {X : Cx} {T : Tab} {C : Ctx} {k : Nat}
theorem _root_.L2.PG.imp {X : Cx} {e : Expr} {t t' : TG} (h : PG X e t) (w : ∀ v σ H Q, t' v σ H Q → t v σ H Q) : PG X e t' := ⟨fun pins s σ H v u Q I r q => h.run pins s σ H v u Q I r (w v σ H Q q)⟩
theorem _root_.L2.PGs.imp {X : Cx} {e : List Expr} {t t' : TGs} (h : PGs X e t) (w : ∀ v σ H Q, t' v σ H Q → t v σ H Q) : PGs X e t' := ⟨fun pins s σ H v u Q I r q => h.run pins s σ H v u Q I r (w v σ H Q q)⟩
theorem og_name {i : Nat} {e : Expr} (h : PG X e (gName i)) : PG X e (gM T [i] fun d env => ret (env.set i (some d))) :=
  h.imp fun v σ H Q ⟨io, h, env, d, S, r, rd, p⟩ => Post.here p S ⟨r.set i rd, Off.set σ i _⟩
theorem ogs_nil : PGs X [] (gMs T [] fun ds env => match ds with
    | [] => ret env
    | _ => stk) := pgs_nil.imp fun vs σ H Q ⟨io, h, env, ds, S, r, rs, p⟩ => by
  cases ds with
  | nil =>
    unfold Reps at rs
    subst rs
    exact ⟨rfl, Post.here p S ⟨r, Off.refl _ _⟩⟩
  | cons d ds => exact False.elim p
theorem ogs_cons {e : Expr} {es : List Expr} {ix ix2 : List Nat} {m : D → Env → EM Env} {m2 : List D → Env → EM Env} (h1 : PG X e (gM T ix m)) (h2 : PGs X es (gMs T ix2 m2)) (hs : (assignEach (e :: es) X.env).map (·.2) = assign e X.env :: (assignEach es X.env).map (·.2)) :
    PGs X (e :: es) (gMs T (ix ++ ix2) fun ds env => match ds with
      | d :: l => bnd (m d env) fun env1 => m2 l env1
      | _ => stk) := by
  refine (pgs_cons h1 h2 hs).imp fun vs σ H Q ⟨io, h, env, ds, S, r, rs, p⟩ => ?_
  cases ds with
  | nil => exact False.elim p
  | cons d ds =>
    unfold Reps at rs
    obtain ⟨v, vr, rfl, rd, rr⟩ := rs
    refine ⟨v, vr, rfl, io, h, env, d, S, r, rd, ?_⟩
    have p2 := Post.bind (R := RE T ix σ) p
    refine p2.mono fun σ1 H1 z => ?_
    obtain ⟨env1, io1, h1, S1, G1, ⟨r1, o1⟩, p3⟩ := z
    refine ⟨io1, h1, env1, ds, S1, r1, rr.grow G1, ?_⟩
    have p3 : Post T io1 h1 H1 [] NoW (RE T (ix ++ ix2) σ) Q (m2 ds env1 h1) := p3
    cases q : m2 ds env1 h1 with
    | ok env2 h2 =>
      rw [q] at p3
      exact fun io' H' σ2 S2 G2 ⟨r2, o2⟩ => p3 io' H' σ2 S2 G2 ⟨r2, o1.trans o2⟩
    | ex x h2 => rw [q] at p3; exact p3
    | stuck => rw [q] at p3; exact p3
theorem og_tup {es : List Expr} {kk n : Nat} {pos : Pos} {ix : List Nat} {m : List D → Env → EM Env} (hT : T.K = X.K) (hc : X.calm = true) (h : PGs X es (gMs T ix m)) (hn : (assignEach es X.env).length = n) (hst : (assignEach es X.env).findIdx? (·.1) = none) : PG X (.Tuple es kk pos) (gM T ix (tupT n m)) := by
  refine (pg_tup hc h hn hst).imp fun v σ H Q ⟨io, h, env, d, S, r, rd, p⟩ => ?_
  cases d <;> try exact False.elim p
  rename_i l
  unfold Rep at rd
  obtain ⟨a, xs, rfl, e, z⟩ := rd
  have p : Post T io h H [] NoW (RE T ix σ) Q ((if l.length = n then m l env else stk : EM Env) h) := p
  by_cases hl : l.length = n
  · rw [if_pos hl] at p
    exact ⟨a, xs, rfl, Same.seqT fz_le (hT ▸ e), by rw [← z.length]; exact hl, io, h, env, l, S, r, z, p⟩
  · rw [if_neg hl] at p
    exact False.elim p
theorem og_sub {o i : Expr} {pos : Pos} {mo mi : Env → EM D} (hu : X.A.units + 1 < cLine) (ho : PE X o (tE T NoW mo)) (hi : PE X i (tE T NoW mi)) (hi' : noSlice i = true) : PG X (.Subscript o i pos) (gM T [] fun d env => bnd (mo env) fun x => bnd (mi env) fun y => bnd (setD x y d) fun _ => ret env) := by
  refine (pg_sub ho hi (set_any (T := T) hu) (fun v => by cases i <;> first | rfl | exact absurd hi' Bool.false_ne_true)).imp fun v σ H Q ⟨io, h, env, d, S, r, rd, p⟩ => ?_
  have p : Post T io h H σ NoW (RE T [] σ) Q (bnd (mo env) (fun x => bnd (mi env) fun y => bnd (setD x y d) fun _ => ret env) h) := p.sig fun _ _ _ z => z
  refine step S r p fun io1 h1 d1 v1 H1 S1 G1 rd1 p1 => ?_
  refine step S1 (r.grow G1) p1 fun io2 h2 d2 v2 H2 S2 G2 rd2 p2 => ?_
  refine ⟨io2, h2, d1, d2, d, S2, rd1.grow G2, rd2, (rd.grow G1).grow G2, ?_⟩
  refine ((Post.bind (R := RU) p2).mono fun b H3 z => ?_).sig fun _ _ _ z => z
  obtain ⟨_, io3, h3, S3, G3, _, p3⟩ := z
  exact Post.here p3 S3 ⟨((r.grow G1).grow G2).grow G3, Off.refl _ _⟩
theorem og_att {o : Expr} {f : Nat} {pos : Pos} {mo : Env → EM D} (hf : C.flds = T.fld) (A : AtG X T C k f) (hz : ∀ c, (T.fld c).length ≤ 100) (ho : PE X o (tE T NoW mo)) :
    PG X (.Attribute o (T.atn f) pos) (gM T [] fun d env => bnd (mo env) fun x => bnd (setA C x f d) fun _ => ret env) := by
  refine ⟨fun pins s σ H v u Q I rv ⟨io, h, env, d, S, r, rd, p⟩ => ?_⟩
  have p : Post T io h H σ NoW (RE T [] σ) Q (bnd (mo env) (fun x => bnd (setA C x f d) fun _ => ret env) h) := p.sig fun _ _ _ z => z
  rw [arm_assign_Attribute]
  refine wpAny_bind (wpAny_holding (thn (ho.run pins s σ H _ I (step S r p fun io1 h1 d1 v1 H1 S1 G1 rd1 p1 =>
    show (fun v1 H1 => ∃ io1 h1 d1, Sim T io1 h1 H1 ∧ REnv T io1 (fz io1 h1 H1) env σ ∧ Rep T io1 (fz io1 h1 H1) d1 v1 ∧ Rep T io1 (fz io1 h1 H1) d v ∧ Post T io1 h1 H1 σ NoW (RE T [] σ) Q (bnd (setA C d1 f d) (fun _ => ret env) h1)) v1 H1 from ⟨io1, h1, d1, S1, r.grow G1, rd1, rd.grow G1, p1⟩)) fun ov s1 ⟨v1, H1, I1, r1, io1, h1, d1, S1, re1, rd1, rdv, p1⟩ => ?_))
  refine wpAny_bind (wpAny_standAt (wpAny_bind (wpAny_holding (thn (setA_ok (W := NoW) (Q := fun H2 => Q σ H2) hf A hz I1 S1 rd1 r1 rdv rv ?_) fun _ s2 ⟨H2, I2, q2⟩ => wpAny_release ⟨σ, H2, I2, q2⟩))))
  refine (Post.bind (R := RU) p1).mono fun b H3 z => ?_
  obtain ⟨_, io3, h3, S3, G3, _, p3⟩ := z
  exact Post.here p3 S3 ⟨re1.grow G3, Off.refl _ _⟩
/-! ### a, *b = a list -/
theorem unpack_hd {A : Around} {E : Value → Shared → Prop} {s : Shared} {l : Addr} {x : Value} {r : List Value} {Q : List Value → Shared → Prop} (hl : s.heap.IsList l (x :: r).toArray) (hh : A.handled = none) (hz : r.length < 16384)
    (h : ∀ (h' : Heap) tk, (∀ b o, s.heap.get? b = some o → h'.get? b = some o) → Q [x, .ref h'.objs.size] { s with heap := h'.push { cls := .type "list", data := .seq r.toArray }, toks := tk }) : wpAny (model X.prog X.w) A (unpackItems (.ref l) 2 (some 1)) Q E s := by
  have hlt : l ≠ s.heap.objs.size := by obtain ⟨o, ho, _⟩ := hl; exact Nat.ne_of_lt (Heap.lt_size ho)
  have hll : l < s.heap.objs.size := by obtain ⟨o, ho, _⟩ := hl; exact Heap.lt_size ho
  have hsz : (x :: r).toArray.size = r.length + 1 := by simp
  unfold unpackItems
  refine wpAny_bind ?_
  unfold notIterableAtAll
  refine wpAny_bind (wpAny_specialOf hl.typeIs slot_list_iter.lookup ?_)
  refine wpAny_pure ?_
  simp only [Bool.false_eq_true, if_false]
  refine wpAny_bind (wpAny_holding (wpAny_pyIter_list hl ?_))
  refine wpAny_bind (wpAny_holding (PySem.W.kun_draw hlt 1 0 _ _ ⟨_, Heap.get?_push_size _ rfl, rfl, rfl⟩ (hl.push _) (by omega) fun h₁ hit₁ hs₁ => ?_))
  have hl₁ : h₁.IsList l (x :: r).toArray := (hl.push _).extBut hs₁.extBut hlt
  rw [Nat.zero_add] at hit₁
  have hit₁' := hit₁
  obtain ⟨oi, hoi, _⟩ := hit₁'
  have hl₁' := hl₁
  obtain ⟨ol, hol, _⟩ := hl₁'
  have e1 : ((x :: r).toArray.toList.drop 0).take 1 = [x] := by simp
  rw [e1, if_neg (by simp)]
  refine wpAny_bind (wpAny_holding (PySem.W.kun_collect (s := { s with heap := h₁ }) (T := "list_iterator") (.inr (.inr (.inl rfl))) (Walks.list (A := A.in1) hh s.heap.objs.size l hlt (x :: r).toArray) (fun j u st => st.1.typeIs) (k := 1) (by omega) ⟨hit₁, hl₁⟩ (Heap.lt_size hoi) (Heap.lt_size hol) (fun h₂ tk hk => ?_) (by rw [sizeLine_eq]; omega)))
  have e2 : (x :: r).toArray.toList.drop 1 = r := by simp
  rw [e2]
  show wpAny _ _ (if r.length < 0 then _ else _) _ _ _
  rw [if_neg (by omega)]
  show wpAny _ _ (newList (r.take (r.length - 0)) >>= fun d => pure ([x] ++ [d] ++ r.drop (r.length - 0))) _ _ _
  have he : Heap.ExtBut s.heap.objs.size s.heap h₂ := fun b o hb e => hk b o hb (hs₁.extBut b o hb (Heap.get?_push_of_some _ e))
  have e3 : r.take (r.length - 0) = r := List.take_of_length_le (by omega)
  have e4 : r.drop (r.length - 0) = [] := List.drop_of_length_le (by omega)
  rw [e3, e4]
  exact wpAny_bind (wpAny_newObj_type (wpAny_pure (h h₂ tk fun b o e => he b o (Nat.ne_of_lt (Heap.lt_size e)) e)) (by show r.toArray.size ≤ sizeLine; rw [List.size_toArray, sizeLine_eq]; omega))
theorem og_hdt {i j kk : Nat} {x y : Str} {px py ps pos : Pos} (hc : X.calm = true) (hN : X.N.Nodup) (hi : X.N[i]? = some x) (hj : X.N[j]? = some y) (hx : Loc X.env.scope x) (hy : Loc X.env.scope y) (fx : X.fn x = true ∨ X.env.scope.names.lookup x = some .local) (fy : X.fn y = true ∨ X.env.scope.names.lookup y = some .local) :
    PG X (.Tuple [.Name x px, .Starred (.Name y py) ps] kk pos) (gM T [i, j] fun d env => hdtD i j env d) := by
  refine ⟨fun pins s σ H v u Q I rv ⟨io, h, env, d, S, r, rd, p⟩ => ?_⟩
  cases d <;> try exact False.elim p
  rename_i l
  cases l with
  | nil => exact False.elim p
  | cons d l =>
    obtain ⟨g, p2⟩ := Post.guard p
    have g := of_decide_eq_true g
    unfold Rep at rd
    obtain ⟨a, xs, rfl, ea, z⟩ := rd
    unfold Reps at z
    obtain ⟨v, vr, rfl, rd, rr⟩ := z
    cases rv
    obtain ⟨hz, its, n, rvs, eh⟩ := I.hok a _ (fz_some ea)
    cases rvs with
    | @cons _ u1 _ us r1 rs =>
      rw [PyProof.Rows.assign_Tuple]
      refine wpAny_bind (wpAny_standAt ?_)
      unfold unpack
      have e1 : (assignEach [.Name x px, .Starred (.Name y py) ps] X.env).length = 2 := rfl
      have e2 : (assignEach [.Name x px, .Starred (.Name y py) ps] X.env).findIdx? (·.1) = some 1 := rfl
      have e3 : (assignEach [.Name x px, .Starred (.Name y py) ps] X.env).map (·.2) = [assign (.Name x px) X.env, assign (.Name y py) X.env] := rfl
      rw [e1, e2, e3]
      have hlen := rs.length
      have hll := rr.length
      refine wpAny_bind (wpAny_holding (unpack_hd ⟨_, eh, rfl, n, rfl⟩ (I.ok.hd hc) (by omega) fun h' tk kp => ?_))
      have I1 : Inv X pins σ H { s with heap := h', toks := tk } := I.kept kp
      have hn : H h'.objs.size = none := I1.hok.fresh (Nat.le_refl _)
      have I2 : Inv X pins σ (upd H h'.objs.size (.lst vr)) { s with heap := h'.push { cls := .type "list", data := .seq us.toArray }, toks := tk } :=
        I1.laid (t' := tk) (fun b o e => Heap.get?_push_of_some _ e) (Nat.le_refl _) ⟨by rw [sizeLine_eq]; omega, us, 0, rs, Heap.get?_push_size _ rfl⟩
      obtain ⟨S', G⟩ := S.alloc (.lst vr) hn
      refine assignInOrder_cons (thn ((pg_name (pos := px) hN hi hx fx).run pins _ σ _ v u1 (fun σ1 H1 => σ1 = σ.set i (some v) ∧ H1 = upd H h'.objs.size (.lst vr)) I2 r1 ⟨rfl, rfl⟩) fun _ s2 ⟨σ1, H1, I3, e4, e5⟩ => ?_)
      subst e4 e5
      refine assignInOrder_cons (thn ((pg_name (pos := py) hN hj hy fy).run pins _ _ _ (.ref h'.objs.size) (.ref h'.objs.size) (fun σ1 H1 => σ1 = (σ.set i (some v)).set j (some (.ref h'.objs.size)) ∧ H1 = upd H h'.objs.size (.lst vr)) I3 rfl ⟨rfl, rfl⟩) fun _ s3 ⟨σ2, H2, I4, e6, e7⟩ => ?_)
      subst e6 e7
      refine assignInOrder_nil ⟨_, _, I4, ?_⟩
      have rl : Rep T io (fz io h (upd H h'.objs.size (.lst vr))) (.lst l) (.ref h'.objs.size) := by
        unfold Rep
        exact ⟨_, vr, rfl, fz_new S hn, rr.grow G⟩
      refine p2 io _ _ S' G ⟨((r.grow G).set i (rd.grow G)).set j rl, ?_⟩
      exact (Off.set σ i _).trans (Off.set _ j _)
end
end SX
end
section
set_option Elab.async false
set_option linter.all false
set_option maxRecDepth 100000
set_option maxHeartbeats 1000000
/-! SX19: comprehensions. -/
namespace SX
open PySem PySem.Spec PyProof.Rows L2
section
variable {X : Cx} {T : Tab} {W : WX} {C : Ctx} {k : Nat}
theorem nb_ok {α γ δ : Type} {m : EM α} {g : α → EM γ} {g2 : γ → EM δ} {h h1 : LH} {a : α} (e : m h = .ok a h1) : bnd (noEx (bnd m g)) g2 h = bnd (noEx (g a)) g2 h1 := by
  have e1 : bnd m g h = g a h1 := by simp only [bnd, e]
  simp only [bnd, noEx, e]
theorem nb_no {α γ δ : Type} {m : EM α} {g : α → EM γ} {g2 : γ → EM δ} {h : LH} (e : ∀ a h1, m h ≠ .ok a h1) : bnd (noEx (bnd m g)) g2 h = .stuck := by
  cases q : m h with
  | ok a h1 => exact absurd q (e a h1)
  | ex x h1 => simp only [bnd, noEx, q]
  | stuck => simp only [bnd, noEx, q]
theorem Post.nbind {α β γ δ ε : Type} {io : List Addr} {h : LH} {H : Hp} {σ σ' : L2.St} {R : List Addr → Hp → δ → ε → Prop} {R1 : List Addr → Hp → α → β → Prop} {Q : ε → Hp → Prop} {m : EM α} {g : α → EM γ} {g2 : γ → EM δ} (p : Post T io h H σ W R Q (bnd (noEx (bnd m g)) g2 h)) :
    Post T io h H σ' NoW R1 (fun b H1 => ∃ a io1 h1, Sim T io1 h1 H1 ∧ Grow io h H io1 h1 H1 ∧ R1 io1 (fz io1 h1 H1) a b ∧ Post T io1 h1 H1 σ W R Q (bnd (noEx (g a)) g2 h1)) (m h) := by
  cases e : m h with
  | ok a h1 =>
    rw [nb_ok e] at p
    exact fun io1 H1 b S1 G1 r1 => ⟨a, io1, h1, S1, G1, r1, Post.from p G1⟩
  | ex x h1 => rw [nb_no (by rw [e]; exact fun _ _ z => by cases z)] at p; exact False.elim p
  | stuck => rw [nb_no (by rw [e]; exact fun _ _ z => by cases z)] at p; exact False.elim p
theorem Post.ngetC {γ δ ε : Type} {io : List Addr} {h : LH} {H : Hp} {σ : L2.St} {R : List Addr → Hp → δ → ε → Prop} {Q : ε → Hp → Prop} {n : Nat} {g : Cell → EM γ} {g2 : γ → EM δ} (p : Post T io h H σ W R Q (bnd (noEx (bnd (SX.getC n) g)) g2 h)) :
    ∃ c, h[n]? = some (some c) ∧ Post T io h H σ W R Q (bnd (noEx (g c)) g2 h) := by
  rcases getC_cases n h with ⟨c, e, q⟩ | q
  · rw [nb_ok q] at p
    exact ⟨c, e, p⟩
  · rw [nb_no (by rw [q]; exact fun _ _ z => by cases z)] at p
    exact False.elim p
theorem Post.nguard {γ δ ε : Type} {io : List Addr} {h : LH} {H : Hp} {σ : L2.St} {R : List Addr → Hp → δ → ε → Prop} {Q : ε → Hp → Prop} {b : Bool} {g : Unit → EM γ} {g2 : γ → EM δ} (p : Post T io h H σ W R Q (bnd (noEx (bnd (guard' b) g)) g2 h)) :
    b = true ∧ Post T io h H σ W R Q (bnd (noEx (g ())) g2 h) := by
  cases b with
  | true => exact ⟨rfl, p⟩
  | false => exact False.elim p
theorem Post.nsetC {γ δ ε : Type} {io : List Addr} {h : LH} {H : Hp} {σ : L2.St} {R : List Addr → Hp → δ → ε → Prop} {Q : ε → Hp → Prop} {n : Nat} {c c' : Cell} {g : Unit → EM γ} {g2 : γ → EM δ} (e : h[n]? = some (some c)) (p : Post T io h H σ W R Q (bnd (noEx (bnd (SX.setC n c') g)) g2 h)) :
    Post T io h H σ W R Q (bnd (noEx (g ())) g2 (h.set n (some c'))) := by
  have q : SX.setC n c' h = .ok () (h.set n (some c')) := by
    unfold SX.setC
    rw [e]
  rw [nb_ok q] at p
  exact p
theorem off_wipe {ix vs : List Nat} {σ σ2 : L2.St} (o : Off ix (L2.wipe σ vs) σ2) (s : ∀ i ∈ ix, i ∈ vs) : L2.wipe σ2 vs = L2.wipe σ vs := by
  have at_ : ∀ (vs : List Nat) (τ : L2.St) (j : Nat), (L2.wipe τ vs)[j]? = if j ∈ vs ∧ j < τ.length then some none else τ[j]? := by
    intro vs
    induction vs with
    | nil => intro τ j; simp [L2.wipe]
    | cons v vs ih =>
      intro τ j
      unfold L2.wipe
      have hl := L2.wipe_length τ vs
      by_cases e : v = j
      · subst e
        by_cases hv : v < τ.length
        · rw [List.getElem?_set_self (by omega), if_pos ⟨List.mem_cons_self, hv⟩]
        · rw [List.getElem?_eq_none (by simp; omega), if_neg (fun z => hv z.2), List.getElem?_eq_none (by omega)]
      · rw [List.getElem?_set_ne e, ih]
        have hm : (j ∈ v :: vs) ↔ j ∈ vs := by simp [Ne.symm e]
        simp only [hm]
  apply List.ext_getElem?
  intro j
  have hl : σ2.length = σ.length := by rw [o.1, L2.wipe_length]
  rw [at_ vs σ2 j, at_ vs σ j, hl]
  by_cases hj : j ∈ vs ∧ j < σ.length
  · rw [if_pos hj, if_pos hj]
  · rw [if_neg hj, if_neg hj]
    by_cases hv : j ∈ vs
    · have hn : ¬ j < σ.length := fun z => hj ⟨hv, z⟩
      rw [List.getElem?_eq_none (by omega), List.getElem?_eq_none (by omega)]
    · rw [o.2 j (fun z => hv (s j z)), at_ vs σ j, if_neg hj]
theorem REnv.len_wipe {io : List Addr} {F : Hp} {env : Env} {σ : L2.St} (r : REnv T io F env σ) (vs : List Nat) : REnv T io F (wipeE env vs) (L2.wipe σ vs) := r.wipe vs
theorem com_read {ix vs : List Nat} {mi : Env → EM (List D)} {mt : D → Env → EM Env} {mc : Env → EM Bool} {me : Env → EM D} {σ : L2.St} {H : Hp} {Q : VK} (hix : ∀ i ∈ ix, i ∈ vs) (q : tE T W (comM vs mi mt mc me) σ H Q) :
    tLc (iM T W mi) (gM T ix mt) (tT T NoW mc) (tE T NoW me) vs σ H Q := by
  obtain ⟨io, h, env, S, r, p⟩ := q
  unfold comM at p
  refine step (R := ItOk T) S r p fun io1 h1 its J H1 S1 G1 J1 p1 => ?_
  intro D hD
  have hcell : CellAt T io1 (fz io1 h1 H1) (upd H1 D (.lst [])) D (.lst []) := ⟨[], upd_same, Reps.nil⟩
  obtain ⟨S2, G2⟩ := S1.push hD hcell
  have hn : (io1 ++ [D])[h1.length]? = some D := by rw [← S1.len]; simp
  have p2 : Post T io1 h1 H1 σ W (Rep T) Q (bnd (noEx (comL (turnM mt mc me (wipeE env vs)) h1.length its)) (fun _ => frzC (.ref h1.length)) (h1 ++ [some (.lst [])])) := p1
  have r1 := r.grow G1
  -- the invariant
  refine ⟨fun i m H => ∃ io h, Sim T io h H ∧ REnv T io (fz io h H) env σ ∧ io[h1.length]? = some D ∧ Pre io1 io ∧ L2.Same (fz io1 h1 H1) (fz io h H) ∧ i ≤ its.length ∧ m = its.length - i ∧
      Post T io h H σ W (Rep T) Q (bnd (noEx (comL (turnM mt mc me (wipeE env vs)) h1.length (its.drop i))) (fun _ => frzC (.ref h1.length)) h),
    ⟨its.length, io1 ++ [D], h1 ++ [some (.lst [])], S2, r1.grow G2, hn, G2.pre, G2.same, Nat.zero_le _, rfl, by rw [List.drop_zero]; exact p2.from G2⟩, ?_⟩
  rintro i m H' ⟨io2, h2, S3, r3, ea, hp, hsm, hle, rfl, p3⟩
  by_cases hlt : i < its.length
  · refine .inr ⟨J1.go i io2 h2 H' S3 hp hsm hlt, fun H'' => ∃ io h, Sim T io h H'' ∧ REnv T io (fz io h H'') env σ ∧ io[h1.length]? = some D ∧ Pre io1 io ∧ L2.Same (fz io1 h1 H1) (fz io h H'') ∧
        Post T io h H'' σ W (Rep T) Q (bnd (noEx (comL (turnM mt mc me (wipeE env vs)) h1.length (its.drop (i + 1)))) (fun _ => frzC (.ref h1.length)) h), fun H'' z => ?_, fun x H'' y => ?_⟩
    · obtain ⟨io, h, z1, z2, z3, z5, z6, z7⟩ := z
      exact ⟨its.length - (i + 1), by omega, io, h, z1, z2, z3, z5, z6, hlt, rfl, z7⟩
    · have ed : its[i]? = some its[i] := List.getElem?_eq_getElem hlt
      obtain ⟨S4, G4, rd⟩ := J1.yld i _ io2 h2 H' x H'' S3 hp hsm ed y
      have hdr : its.drop i = its[i] :: its.drop (i + 1) := List.drop_eq_getElem_cons hlt
      rw [hdr] at p3
      have p4 := p3.from G4
      unfold comL turnM at p4
      rw [bnd_bnd] at p4
      have q4 := Post.nbind (R1 := RE T ix (L2.wipe σ vs)) (σ' := []) p4
      refine ⟨io2, h2, wipeE env vs, its[i], S4, (r3.grow G4).wipe _, rd, q4.mono fun σ2 H2 z => ?_⟩
      obtain ⟨env1, io3, h3, S5, G5, ⟨re, off⟩, p5⟩ := z
      refine ⟨off_wipe off hix, ?_⟩
      rw [bnd_bnd] at p5
      have q5 := Post.nbind (R1 := RB) (σ' := σ2) p5
      refine ⟨io3, h3, env1, S5, re, q5.mono fun b H3 z => ?_⟩
      obtain ⟨kk, io4, h4, S6, G6, rfl, p6⟩ := z
      have gr := (G4.trans G5).trans G6
      cases kk with
      | false =>
        rw [if_neg Bool.false_ne_true] at p6 ⊢
        exact ⟨io4, h4, S6, r3.grow gr, gr.pre.get ea, hp.trans gr.pre, L2.Same.trans hsm gr.same, p6⟩
      | true =>
        rw [if_pos rfl] at p6 ⊢
        rw [bnd_bnd] at p6
        have q6 := Post.nbind (R1 := Rep T) (σ' := σ2) p6
        refine ⟨io4, h4, env1, S6, re.grow G6, q6.mono fun yv H4 z => ?_⟩
        obtain ⟨dy, io5, h5, S7, G7, ry, p7⟩ := z
        rw [bnd_ret] at p7
        obtain ⟨c, ec, p8⟩ := Post.ngetC p7
        have ea5 := (gr.trans G7).pre.get ea
        cases c with
        | dic l => exact False.elim p8
        | obj c l => exact False.elim p8
        | lst acc =>
          obtain ⟨g, p9⟩ := Post.nguard p8
          have g := of_decide_eq_true g
          obtain ⟨xs, e1, e2⟩ := S7.cell _ _ _ ea5 ec
          have p10 := Post.nsetC ec p9
          obtain ⟨S8, G8⟩ := S7.put (o := .lst (xs ++ [yv])) ea5 ec (c' := .lst (acc ++ [dy])) ⟨xs ++ [yv], upd_same, e2.append (Reps.cons ry Reps.nil)⟩
          have gr2 := (gr.trans G7).trans G8
          refine ⟨xs, e1, by rw [← e2.length, sizeLine_eq]; omega, io5, _, S8, r3.grow gr2, gr2.pre.get ea, hp.trans gr2.pre, L2.Same.trans hsm gr2.same, p10.from G8⟩
  · have hi' : i = its.length := by omega
    subst hi'
    refine .inl ⟨J1.stop io2 h2 H' S3 hp hsm, ?_⟩
    rw [List.drop_length] at p3
    refine frzC_ok S3 (d := .ref h1.length) ?_ p3
    unfold Rep
    exact ⟨D, rfl, ea⟩
theorem ok_com {elt tg iter : Expr} {ifs : List Expr} {scope : Scope} {own : List (Str × Nat)} {pos : Pos} {ix : List Nat} {mi : Env → EM (List D)} {mt : D → Env → EM Env} {mc : Env → EM Bool} {me : Env → EM D} (hc : X.calm = true) (hN : X.N.Nodup)
    (hi : PI X tg iter (iM T W mi)) (ok : BlkOk X.N X.env.scope scope own) (hix : ∀ i ∈ ix, i ∈ own.map (·.2))
    (hg : ∀ (s : Shared) (H : Hp) (C : Addr) (cl : List (Str × Addr)) (fp : List Addr), PG (X.blk s H scope (compEnvC scope cl C X.env) fp) tg (gM T ix mt))
    (ht : ∀ (s : Shared) (H : Hp) (C : Addr) (cl : List (Str × Addr)) (fp : List Addr), PTs (X.blk s H scope (compEnvC scope cl C X.env) fp) ifs (tT T NoW mc))
    (he : ∀ (s : Shared) (H : Hp) (C : Addr) (cl : List (Str × Addr)) (fp : List Addr), PE (X.blk s H scope (compEnvC scope cl C X.env) fp) elt (tE T NoW me))
    (hs : ∀ x, foldedSetIterable iter X.env x = pure x) :
    PE X (.ListComp elt [⟨tg, iter, ifs, 0⟩] scope pos) (tE T W (comM (own.map (·.2)) mi mt mc me)) := by
  exact (pe_lc hc hN hi ok hg ht he hs).imp fun σ H Q q => com_read hix q
theorem ok_setLc {i : Nat} {y : Str} {py : Pos} {elt tg iter : Expr} {ifs : List Expr} {scope : Scope} {own : List (Str × Nat)} {pos spos : Pos} {ix : List Nat} {mi : Env → EM (List D)} {mt : D → Env → EM Env} {mc : Env → EM Bool} {me : Env → EM D} (hc : X.calm = true) (hN : X.N.Nodup)
    (hy : X.N[i]? = some y) (hyl : X.env.scope.names.lookup y = some .local) (hsw : swapsWith (.ListComp elt [⟨tg, iter, ifs, 0⟩] scope pos) (some (.Name y py)) spos.line X.env = pure true)
    (hi : PI X tg iter (iM T W mi)) (ok : BlkOk X.N X.env.scope scope own) (hix : ∀ i ∈ ix, i ∈ own.map (·.2))
    (hg : ∀ (s : Shared) (H : Hp) (C : Addr) (cl : List (Str × Addr)) (fp : List Addr), PG (X.blk s H scope (compEnvC scope cl C X.env) fp) tg (gM T ix mt))
    (ht : ∀ (s : Shared) (H : Hp) (C : Addr) (cl : List (Str × Addr)) (fp : List Addr), PTs (X.blk s H scope (compEnvC scope cl C X.env) fp) ifs (tT T NoW mc))
    (he : ∀ (s : Shared) (H : Hp) (C : Addr) (cl : List (Str × Addr)) (fp : List Addr), PE (X.blk s H scope (compEnvC scope cl C X.env) fp) elt (tE T NoW me))
    (hs : ∀ x, foldedSetIterable iter X.env x = pure x) :
    PS X (.Assign [.Name y py] (.ListComp elt [⟨tg, iter, ifs, 0⟩] scope pos) spos) (tAsg (tE T W (comM (own.map (·.2)) mi mt mc me)) (gName i)) :=
  ⟨fun pins s σ H D I q => (ps_setLc hc hN hy hyl hsw hi ok hg ht he hs).run pins s σ H D I (com_read hix q)⟩
end
end SX
end
section
set_option Elab.async false
set_option linter.all false
set_option maxRecDepth 100000
set_option maxHeartbeats 1000000
/-! SX20: statements. -/
namespace SX
open PySem PySem.Spec PyProof.Rows L2
def PostS (T : Tab) (io : List Addr) (h : LH) (H : Hp) (W : WX) (D : Ends) : SRes → Prop
  | .go .nx env h' => ∀ io' H' σ', Sim T io' h' H' → Grow io h H io' h' H' → REnv T io' (fz io' h' H') env σ' → D.nx σ' H'
  | .go .brk env h' => ∀ io' H' σ', Sim T io' h' H' → Grow io h H io' h' H' → REnv T io' (fz io' h' H') env σ' → D.bk σ' H'
  | .go .cnt env h' => ∀ io' H' σ', Sim T io' h' H' → Grow io h H io' h' H' → REnv T io' (fz io' h' H') env σ' → D.ct σ' H'
  | .go (.ret d) _ h' => ∀ io' H' v, Sim T io' h' H' → Grow io h H io' h' H' → Rep T io' (fz io' h' H') d v → D.rt v H'
  | .ex x env h' => ∀ io' H' σ' cls dd, Sim T io' h' H' → Grow io h H io' h' H' → REnv T io' (fz io' h' H') env σ' → RepX T io' (fz io' h' H') x cls dd → W cls dd σ' H'
  | .stuck => False
def tSt (T : Tab) (W : WX) (m : Env → SM) : TS := fun D σ H => ∃ io h env, Sim T io h H ∧ REnv T io (fz io h H) env σ ∧ PostS T io h H W D (m env h)
section
variable {X : Cx} {T : Tab} {W : WX} {C : Ctx} {k : Nat}
theorem PostS.from {io io1 : List Addr} {h h1 : LH} {H H1 : Hp} {D : Ends} {r : SRes} (p : PostS T io h H W D r) (G : Grow io h H io1 h1 H1) : PostS T io1 h1 H1 W D r := by
  cases r with
  | stuck => exact p
  | ex x env h' => exact fun io' H' σ' c d S G' r x => p io' H' σ' c d S (G.trans G') r x
  | go f env h' =>
    cases f with
    | nx => exact fun io' H' σ' S G' r => p io' H' σ' S (G.trans G') r
    | brk => exact fun io' H' σ' S G' r => p io' H' σ' S (G.trans G') r
    | cnt => exact fun io' H' σ' S G' r => p io' H' σ' S (G.trans G') r
    | ret d => exact fun io' H' v S G' r => p io' H' v S (G.trans G') r
theorem sE_post {α β : Type} {R : List Addr → Hp → α → β → Prop} {io : List Addr} {h : LH} {H : Hp} {D : Ends} {env : Env} {σ : L2.St} {m : EM α} {f : α → SM} (r : REnv T io (fz io h H) env σ) (p : PostS T io h H W D (sE env m f h)) :
    Post T io h H σ W R (fun b H1 => ∃ a io1 h1, Sim T io1 h1 H1 ∧ Grow io h H io1 h1 H1 ∧ R io1 (fz io1 h1 H1) a b ∧ PostS T io1 h1 H1 W D (f a h1)) (m h) := by
  unfold sE at p
  cases e : m h with
  | ok a h1 =>
    rw [e] at p
    exact fun io1 H1 b S1 G1 r1 => ⟨a, io1, h1, S1, G1, r1, p.from G1⟩
  | ex x h1 =>
    rw [e] at p
    exact fun io1 H1 c d S1 G1 x1 => p io1 H1 σ c d S1 G1 (r.grow G1) x1
  | stuck => rw [e] at p; exact p
/-- a first evaluation of a statement -/
theorem stepS {α β : Type} {R : List Addr → Hp → α → β → Prop} {m : Env → EM α} {f : α → SM} {σ : L2.St} {H : Hp} {D : Ends} {P : β → Hp → Prop} {io : List Addr} {h : LH} {env : Env} (S : Sim T io h H) (r : REnv T io (fz io h H) env σ) (p : PostS T io h H W D (sE env (m env) f h))
    (n : ∀ io1 h1 a b H1, Sim T io1 h1 H1 → Grow io h H io1 h1 H1 → R io1 (fz io1 h1 H1) a b → PostS T io1 h1 H1 W D (f a h1) → P b H1) : tM T W R m σ H P := by
  refine ⟨io, h, env, S, r, (sE_post (R := R) r p).mono fun b H1 z => ?_⟩
  obtain ⟨a, io1, h1, S1, G, ra, q1⟩ := z
  exact n io1 h1 a b H1 S1 G ra q1
theorem goNx {io : List Addr} {h : LH} {H : Hp} {D : Ends} {env : Env} {σ : L2.St} (p : PostS T io h H W D (sGo .nx env h)) (S : Sim T io h H) (r : REnv T io (fz io h H) env σ) : D.nx σ H := p io H σ S (Grow.refl _ _ _) r
/-- a store, by its reading -/
theorem store_read {ix : List Nat} {mt : D → Env → EM Env} {D : Ends} {σ : L2.St} {H : Hp} {io : List Addr} {h : LH} {env : Env} {d : SX.D} {v : V} {f : Env → SM} {N : L2.St → Hp → Prop} (S : Sim T io h H) (r : REnv T io (fz io h H) env σ) (rd : Rep T io (fz io h H) d v) (p : PostS T io h H W D (sE env (noEx (mt d env)) f h))
    (n : ∀ io1 h1 env1 σ1 H1, Sim T io1 h1 H1 → Grow io h H io1 h1 H1 → REnv T io1 (fz io1 h1 H1) env1 σ1 → PostS T io1 h1 H1 W D (f env1 h1) → N σ1 H1) : gM T ix mt v σ H N := by
  refine ⟨io, h, env, d, S, r, rd, (noEx_post (sE_post (R := RE T ix σ) r p)).mono fun σ1 H1 z => ?_⟩
  obtain ⟨env1, io1, h1, S1, G1, re, p1⟩ := z
  exact n io1 h1 env1 σ1 H1 S1 G1 re.1 p1
theorem asg_read {ix : List Nat} {me : Env → EM D} {mt : D → Env → EM Env} {D : Ends} {σ : L2.St} {H : Hp} (q : tSt T W (fun env => sE env (me env) fun d => sE env (noEx (mt d env)) fun env1 => sGo .nx env1) D σ H) : tAsg (tE T W me) (gM T ix mt) D σ H := by
  obtain ⟨io, h, env, S, r, p⟩ := q
  refine stepS S r p fun io1 h1 d v H1 S1 G1 rd p1 => ?_
  exact store_read S1 (r.grow G1) rd p1 fun io2 h2 env1 σ1 H2 S2 G2 r2 p2 => goNx p2 S2 r2
theorem asgN_read {i : Nat} {me : Env → EM D} {D : Ends} {σ : L2.St} {H : Hp} (q : tSt T W (fun env => sE env (me env) fun d => sE env (noEx (ret (env.set i (some d)))) fun env1 => sGo .nx env1) D σ H) : tAsg (tE T W me) (gName i) D σ H := by
  obtain ⟨io, h, env, S, r, p⟩ := q
  refine stepS S r p fun io1 h1 d v H1 S1 G1 rd p1 => ?_
  exact goNx (show PostS T io1 h1 H1 W D (sGo .nx (env.set i (some d)) h1) from p1) S1 ((r.grow G1).set i rd)
theorem parN_read {i j : Nat} {m : Env → EM (List D)} {D : Ends} {σ : L2.St} {H : Hp} (q : tSt T W (fun env => sE env (bnd (m env) fun vs => bnd (guard' (fitB vs.length)) fun _ => ret (.tup vs)) fun d => sE env (noEx (tupT 2 (fun ds env => match ds with
    | d :: l => bnd (ret (env.set i (some d))) fun env1 => (match l with
      | d :: l => bnd (ret (env1.set j (some d))) fun env2 => (match l with
        | [] => ret env2
        | _ => stk)
      | _ => stk)
    | _ => stk) d env)) fun env1 => sGo .nx env1) D σ H) : tPar i j (tA T W m) D σ H := by
  obtain ⟨io, h, env, S, r, p⟩ := q
  dsimp only at p
  rw [sE_bnd] at p
  refine stepS S r p fun io1 h1 ds vs H1 S1 G1 rs p1 => ?_
  rw [sE_bnd] at p1
  cases g : fitB ds.length with
  | false => rw [g] at p1; exact False.elim p1
  | true =>
    rw [g] at p1
    match ds, rs, p1 with
    | [], _, p1 => exact False.elim p1
    | [d], _, p1 => exact False.elim p1
    | _ :: _ :: _ :: _, _, p1 => exact False.elim p1
    | [d, e], rs, p1 =>
      obtain ⟨x, y, rfl, rd, re⟩ := rs.two
      exact ⟨x, y, rfl, goNx (show PostS T io1 h1 H1 W D (sGo .nx ((env.set i (some d)).set j (some e)) h1) from p1) S1 (((r.grow G1).set i rd).set j re)⟩
/-- one after another -/
theorem seq_post {io : List Addr} {h : LH} {H : Hp} {D : Ends} {m : SM} {f : Env → SM} (p : PostS T io h H W D (sSeq m f h)) : PostS T io h H W { D with nx := tSt T W f D } (m h) := by
  unfold sSeq at p
  cases e : m h with
  | stuck => rw [e] at p; exact p
  | ex x env h' => rw [e] at p; exact p
  | go fl env h' =>
    rw [e] at p
    cases fl with
    | nx => exact fun io' H' σ' S G r => ⟨io', h', env, S, r, p.from G⟩
    | brk => exact p
    | cnt => exact p
    | ret d => exact p
theorem seq_read {m1 m2 : Env → SM} {D : Ends} {σ : L2.St} {H : Hp} (q : tSt T W (fun env => sSeq (m1 env) m2) D σ H) : tSeq (tSt T W m1) (tSt T W m2) D σ H := by
  obtain ⟨io, h, env, S, r, p⟩ := q
  exact ⟨io, h, env, S, r, seq_post p⟩
theorem drop_read {m : Env → EM D} {D : Ends} {σ : L2.St} {H : Hp} (q : tSt T W (fun env => sE env (m env) fun _ => sGo .nx env) D σ H) : tDrop (tE T W m) D σ H := by
  obtain ⟨io, h, env, S, r, p⟩ := q
  refine stepS S r p fun io1 h1 d v H1 S1 G1 rd p1 => goNx p1 S1 (r.grow G1)
theorem ret_read {m : Env → EM D} {D : Ends} {σ : L2.St} {H : Hp} (q : tSt T W (fun env => sE env (m env) fun d => sGo (.ret d) env) D σ H) : tRet (tE T W m) D σ H := by
  obtain ⟨io, h, env, S, r, p⟩ := q
  refine stepS S r p fun io1 h1 d v H1 S1 G1 rd p1 => ?_
  exact p1 io1 H1 v S1 (Grow.refl _ _ _) rd
theorem if_read {mc : Env → EM D} {m1 m2 : Env → SM} {D : Ends} {σ : L2.St} {H : Hp} (q : tSt T W (fun env => sE env (bnd (mc env) truD) fun k => if k = true then m1 env else m2 env) D σ H) : tIfS (tEt T W mc) (tSt T W m1) (tSt T W m2) D σ H := by
  obtain ⟨io, h, env, S, r, p⟩ := q
  refine stepS (m := fun env => bnd (mc env) truD) S r p fun io1 h1 k b H1 S1 G1 rk p1 => ?_
  cases rk
  cases k with
  | true => exact ⟨io1, h1, env, S1, r.grow G1, p1⟩
  | false => exact ⟨io1, h1, env, S1, r.grow G1, p1⟩
/-- a loop's body -/
theorem turn_post {io : List Addr} {h : LH} {H : Hp} {D : Ends} {m : SM} {f : Env → SM} {N : L2.St → Hp → Prop} (p : PostS T io h H W D (sTurn m f h)) (n : ∀ io1 h1 env1 σ1 H1, Sim T io1 h1 H1 → Grow io h H io1 h1 H1 → REnv T io1 (fz io1 h1 H1) env1 σ1 → PostS T io1 h1 H1 W D (f env1 h1) → N σ1 H1) :
    PostS T io h H W { D with nx := N, ct := N, bk := D.nx } (m h) := by
  unfold sTurn at p
  cases e : m h with
  | stuck => rw [e] at p; exact p
  | ex x env h' => rw [e] at p; exact p
  | go fl env h' =>
    rw [e] at p
    cases fl with
    | nx => exact fun io' H' σ' S G r => n io' h' env σ' H' S G r (p.from G)
    | brk => exact p
    | cnt => exact fun io' H' σ' S G r => n io' h' env σ' H' S G r (p.from G)
    | ret d => exact p
theorem for_read {ix : List Nat} {mi : Env → EM (List D)} {mt : D → Env → EM Env} {mb : Env → SM} {D : Ends} {σ : L2.St} {H : Hp} (q : tSt T W (fun env => sE env (mi env) fun its => forL mt mb its env) D σ H) : tFor (iM T W mi) (gM T ix mt) (tSt T W mb) D σ H := by
  obtain ⟨io, h, env, S, r, p⟩ := q
  refine stepS (R := ItOk T) S r p fun io1 h1 its J H1 S1 G1 J1 p1 => ?_
  refine ⟨fun i m σ H => ∃ io h env, Sim T io h H ∧ REnv T io (fz io h H) env σ ∧ Pre io1 io ∧ L2.Same (fz io1 h1 H1) (fz io h H) ∧ i ≤ its.length ∧ m = its.length - i ∧ PostS T io h H W D (forL mt mb (its.drop i) env h),
    ⟨its.length, io1, h1, env, S1, r.grow G1, Pre.rfl' _, L2.Same.refl _, Nat.zero_le _, rfl, by rw [List.drop_zero]; exact p1⟩, ?_⟩
  rintro i m σ' H' ⟨io2, h2, env2, S2, r2, hp, hsm, hle, rfl, p2⟩
  by_cases hlt : i < its.length
  · refine .inr ⟨J1.go i io2 h2 H' S2 hp hsm hlt, fun σ'' H'' => ∃ io h env, Sim T io h H'' ∧ REnv T io (fz io h H'') env σ'' ∧ Pre io1 io ∧ L2.Same (fz io1 h1 H1) (fz io h H'') ∧ PostS T io h H'' W D (forL mt mb (its.drop (i + 1)) env h), fun σ'' H'' z => ?_, fun x H'' y => ?_⟩
    · obtain ⟨io, h, env, z1, z2, z3, z4, z5⟩ := z
      exact ⟨its.length - (i + 1), by omega, io, h, env, z1, z2, z3, z4, hlt, rfl, z5⟩
    · have ed : its[i]? = some its[i] := List.getElem?_eq_getElem hlt
      obtain ⟨S3, G3, rd⟩ := J1.yld i _ io2 h2 H' x H'' S2 hp hsm ed y
      have hdr : its.drop i = its[i] :: its.drop (i + 1) := List.drop_eq_getElem_cons hlt
      rw [hdr] at p2
      have p3 := p2.from G3
      unfold forL at p3
      refine store_read S3 (r2.grow G3) rd p3 fun io4 h4 env4 σ4 H4 S4 G4 r4 p4 => ⟨io4, h4, env4, S4, r4, turn_post p4 fun io5 h5 env5 σ5 H5 S5 G5 r5 p5 => ?_⟩
      have gr := (G3.trans G4).trans G5
      exact ⟨io5, h5, env5, S5, r5, hp.trans gr.pre, L2.Same.trans hsm gr.same, p5⟩
  · have hi' : i = its.length := by omega
    subst hi'
    rw [List.drop_length] at p2
    exact .inl ⟨J1.stop io2 h2 H' S2 hp hsm, goNx p2 S2 r2⟩
theorem whl_read {n : Nat} {mc : Env → EM D} {mb : Env → SM} {D : Ends} {σ : L2.St} {H : Hp} (q : tSt T W (fun env => whlL (fun env => bnd (mc env) truD) mb n env) D σ H) : tWhile (tEt T W mc) (tSt T W mb) D σ H := by
  refine ⟨fun m σ H => tSt T W (fun env => whlL (fun env => bnd (mc env) truD) mb m env) D σ H, ⟨n, q⟩, ?_⟩
  rintro m σ' H' ⟨io, h, env, S, r, p⟩
  cases m with
  | zero => exact False.elim p
  | succ m =>
    unfold whlL at p
    refine stepS (m := fun env => bnd (mc env) truD) S r p fun io1 h1 k b H1 S1 G1 rk p1 => ?_
    cases rk
    cases k with
    | true =>
      rw [if_pos rfl] at p1 ⊢
      exact ⟨tSt T W (fun env => whlL (fun env => bnd (mc env) truD) mb m env) D, fun σ2 H2 z => ⟨m, Nat.lt_succ_self m, z⟩, io1, h1, env, S1, r.grow G1, turn_post p1 fun io2 h2 env2 σ2 H2 S2 G2 r2 p2 => ⟨io2, h2, env2, S2, r2, p2⟩⟩
    | false =>
      rw [if_neg Bool.false_ne_true] at p1 ⊢
      exact goNx p1 S1 (r.grow G1)
theorem brk_read {D : Ends} {σ : L2.St} {H : Hp} (q : tSt T W (fun env => sGo .brk env) D σ H) : tBreak D σ H := by
  obtain ⟨io, h, env, S, r, p⟩ := q
  exact p io H σ S (Grow.refl _ _ _) r
theorem cnt_read {D : Ends} {σ : L2.St} {H : Hp} (q : tSt T W (fun env => sGo .cnt env) D σ H) : tCont D σ H := by
  obtain ⟨io, h, env, S, r, p⟩ := q
  exact p io H σ S (Grow.refl _ _ _) r
theorem nx_read {D : Ends} {σ : L2.St} {H : Hp} (q : tSt T W (fun env => sGo .nx env) D σ H) : tNext D σ H := by
  obtain ⟨io, h, env, S, r, p⟩ := q
  exact goNx p S r
theorem retN_read {D : Ends} {σ : L2.St} {H : Hp} (q : tSt T W (fun env => sGo (.ret .non) env) D σ H) : tRetN D σ H := by
  obtain ⟨io, h, env, S, r, p⟩ := q
  exact p io H .non S (Grow.refl _ _ _) non_rep
theorem bad_read {D : Ends} {σ : L2.St} {H : Hp} (q : tSt T W (fun _ => sStk) D σ H) : tNever D σ H := by
  obtain ⟨io, h, env, S, r, p⟩ := q
  exact p
end
end SX
end
section
set_option Elab.async false
set_option linter.all false
set_option maxRecDepth 100000
set_option maxHeartbeats 1000000
/-! SX21: the check that code is a text's translation. -/
namespace SX
open PySem PySem.Spec PyProof.Rows L2
/-- names by numbers -/
structure Gb where
  fnm : Nat → Str
  cnm : Nat → Str
  gnm : Nat → Str
structure Inf where
  N : List Str
  sc : Scope
  fb : Str → Bool
/-- a context is told by an Inf -/
structure Told (X : Cx) (I : Inf) : Prop where
  N : X.N = I.N
  sc : X.env.scope = I.sc
  fb : ∀ x, I.fb x = true → X.fn x = true
  nd : X.N.Nodup
  dbg : ∀ x ∈ I.N, (x == ("__debug__" : Str)) = false ∧ (x == ("__classdict__" : Str)) = false
def Inf.blk (I : Inf) (scope : Scope) : Inf := ⟨I.N, relS scope I.sc, fun x => scope.names.lookup x == some .cell⟩
structure Good (X : Cx) (T : Tab) (C : Ctx) (B : Gb) (k : Nat) : Prop where
  hT : T.K = X.K
  flds : C.flds = T.fld
  calm : X.calm = true
  room : Room (k + 1) X.A
  gd : Gd T X.A
  fz : ∀ c, (T.fld c).length ≤ 100
  fn : ∀ f, C.hasF f = true → ∃ a, X.mg (B.fnm f) = some (.ref a) ∧ PySem.W.keepIn X.K (.ref a) = true ∧ ∀ n s, C.fn f n = some s → FnS X T k a n s
  ini : ∀ c, C.hasI c = true → X.mg (B.cnm c) = some (.ref (T.cad c)) ∧ ∃ f, Mk X.K (T.cad c) f ∧ ∀ n s, C.ini c n = some s → FnS X T k f (n + 1) s
  mth : ∀ c m, C.hasM c m = true → MtG X T C k c m
  att : ∀ f, AtG X T C k f
  eq : ∀ c s, C.mt c aEq 1 = some s → DnG X T C k c "__eq__" aEq 1 ∧ NeG X T c
  add : ∀ c s, C.mt c aAdd 1 = some s → DnG X T C k c "__add__" aAdd 1 ∧ NeG X T c
  len : ∀ c s, C.mt c aLen 0 = some s → DnG X T C k c "__len__" aLen 0
  item : ∀ c s, C.mt c aItem 1 = some s → DnG X T C k c "__getitem__" aItem 1
  isg : IsG X T C
  cls : ∀ c, C.cls.contains c = true → X.mg (B.cnm c) = some (.ref (T.cad c))
  gdg : ∀ i, C.hasD i = true → GdG X T C (B.gnm i) i
  gvs : ∀ i, C.hasG i = true → ∃ u v, X.mg (B.gnm i) = some u ∧ RelV v u ∧ ∀ d io F, C.gvs.lookup i = some d → Rep T io F d v
  blt : ∀ b, X.mg (bltName b) = none
  isi : X.mg "isinstance" = none
  rng : X.mg "range" = none
  enu : X.mg "enumerate" = none
  zip : X.mg "zip" = none
theorem takesN {X : Cx} : Takes X NoW := fun _ _ x => by
  obtain ⟨_, _, _, _, _, _, _, _, _, _, _, _, _, _, _, _, z⟩ := x
  exact z.elim
section
variable {X : Cx} {T : Tab} {W : WX} {C : Ctx} {k : Nat} {B : Gb} {I : Inf}
theorem MtG.blk {s : Shared} {H : Hp} {scope : Scope} {cenv : PySem.Env} {fp : List Addr} {c m : Nat} (g : MtG X T C k c m) : MtG (X.blk s H scope cenv fp) T C k c m := ⟨g.cls, g.out, g.meth⟩
theorem DnG.blk {s : Shared} {H : Hp} {scope : Scope} {cenv : PySem.Env} {fp : List Addr} {c : Nat} {nm : Str} {m n : Nat} (g : DnG X T C k c nm m n) : DnG (X.blk s H scope cenv fp) T C k c nm m n := ⟨g.ok⟩
theorem NeG.blk {s : Shared} {H : Hp} {scope : Scope} {cenv : PySem.Env} {fp : List Addr} {c : Nat} (g : NeG X T c) : NeG (X.blk s H scope cenv fp) T c := ⟨g.ne, g.ob, g.sf⟩
theorem AtG.blk {s : Shared} {H : Hp} {scope : Scope} {cenv : PySem.Env} {fp : List Addr} {f : Nat} (g : AtG X T C k f) : AtG (X.blk s H scope cenv fp) T C k f := ⟨g.fld, g.pr⟩
theorem IsG.blk {s : Shared} {H : Hp} {scope : Scope} {cenv : PySem.Env} {fp : List Addr} (g : IsG X T C) : IsG (X.blk s H scope cenv fp) T C := ⟨g.own, g.kit⟩
theorem GdG.blk {s : Shared} {H : Hp} {scope : Scope} {cenv : PySem.Env} {fp : List Addr} {x : Str} {i : Nat} (g : GdG X T C x i) : GdG (X.blk s H scope cenv fp) T C x i := ⟨g.ok⟩
theorem Good.blk {s : Shared} {H : Hp} {scope : Scope} {cenv : PySem.Env} {fp : List Addr} (g : Good X T C B k) : Good (X.blk s H scope cenv fp) T C B k where
  hT := g.hT
  flds := g.flds
  calm := g.calm
  room := g.room
  gd := g.gd
  fz := g.fz
  fn := g.fn
  ini := g.ini
  mth := fun c m h => (g.mth c m h).blk
  att := fun f => (g.att f).blk
  eq := fun c s h => ⟨(g.eq c s h).1.blk, (g.eq c s h).2.blk⟩
  add := fun c s h => ⟨(g.add c s h).1.blk, (g.add c s h).2.blk⟩
  len := fun c s h => (g.len c s h).blk
  item := fun c s h => (g.item c s h).blk
  isg := g.isg.blk
  cls := g.cls
  gdg := fun i h => (g.gdg i h).blk
  gvs := g.gvs
  blt := g.blt
  isi := g.isi
  rng := g.rng
  enu := g.enu
  zip := g.zip
theorem Told.blk {s : Shared} {H : Hp} {scope : Scope} {cl : List (Str × Addr)} {c : Addr} {fp : List Addr} (t : Told X I) : Told (X.blk s H scope (compEnvC scope cl c X.env) fp) (I.blk scope) where
  N := t.N
  sc := by
    show relS scope X.env.scope = relS scope I.sc
    rw [t.sc]
  fb := fun x h => h
  nd := t.nd
  dbg := t.dbg
end
/-! ### the check -/
def gl (I : Inf) (x : Str) : Bool := I.sc.names.lookup x == some .globalImplicit && !(x == ("__debug__" : Str))
def nmV (I : Inf) (i : Nat) (x : Str) : Bool := I.N[i]? == some x && (match I.sc.names.lookup x with
  | some .local => true
  | some .cell => true
  | some .free => true
  | _ => false)
def nmS (I : Inf) (i : Nat) (x : Str) : Bool := I.N[i]? == some x && (match I.sc.names.lookup x with
  | some .local => true
  | some .cell => I.fb x
  | _ => false)
def opB (o : BOp) (op : Operator) : Bool := op == opOf o
def copB (o : COp) (op : CmpOp) : Bool := op == copOf o
/-- never super() -/
def noSup : Expr → Bool
  | .Call (.Name _ _) [] [] _ => false
  | _ => true
def noSet : Expr → Bool
  | .Set _ _ _ => false
  | _ => true
def tyName (B : Gb) : TyN → Str
  | .int => "int" | .bool => "bool" | .str => "str" | .list => "list" | .tuple => "tuple" | .cls c => B.cnm c
def chkTy (C : Ctx) (B : Gb) (I : Inf) (t : TyN) : Expr → Bool
  | .Name x _ => x == tyName B t && gl I x && tyOk C t
  | _ => false
def chkTys (C : Ctx) (B : Gb) (I : Inf) : List TyN → List Expr → Bool
  | [], [] => true
  | t :: ts, e :: es => chkTy C B I t e && chkTys C B I ts es
  | _, _ => false
def chkCon : D → Expr → Bool
  | .non, .Constant .none _ _ => true
  | .bl b, .Constant (.bool c) _ _ => b == c
  | .int i, .Constant (.int j) _ _ => decide (i = j)
  | .str s, .Constant (.str t) _ _ => s == t
  | _, _ => false
def chkKey : L2.Key → Expr → Bool
  | .inl i, .Constant (.int j) _ _ => decide (i = j)
  | .inr s, .Constant (.str t) _ _ => s == t
  | _, _ => false

mutual
def CT.ix : CT → List Nat
  | .nam i => [i]
  | .tup ts => CTL.ix ts
  | .sub _ _ => []
  | .att _ _ => []
  | .hdt i j => [i, j]
def CTL.ix : CTL → List Nat
  | .nil => []
  | .cons t r => CT.ix t ++ CTL.ix r
end
mutual
def chkE (T : Tab) (C : Ctx) (B : Gb) (I : Inf) : CE → Expr → Bool
  | .con d, e => chkCon d e
  | .var i, e => match e with
    | .Name x _ => nmV I i x
    | _ => false
  | .frz i, e => match e with
    | .Name x _ => nmV I i x
    | _ => false
  | .glo g, e => match e with
    | .Name x _ => x == B.gnm g && (gl I x && C.hasG g)
    | _ => false
  | .neg a, e => match e with
    | .UnaryOp .USub x _ => chkE T C B I a x
    | _ => false
  | .bin o a b, e => match e with
    | .BinOp x op y _ => opB o op && (chkE T C B I a x && chkE T C B I b y)
    | _ => false
  | .cmp o a b, e => match e with
    | .Compare x [op] [y] _ => copB o op && (!behindInMarks (copOf o) y && (chkE T C B I a x && chkE T C B I b y))
    | _ => false
  | .chn o p a b c, e => match e with
    | .Compare x [op, oq] [y, z] _ => copB o op && (copB p oq && (!behindInMarks (copOf p) z && (chkE T C B I a x && (chkE T C B I b y && chkE T C B I c z))))
    | _ => false
  | .and a b, e => match e with
    | .BoolOp .And (x :: y :: r) pos => chkE T C B I a x && (match r with
      | [] => chkE T C B I b y
      | z :: r => chkE T C B I b (.BoolOp .And (y :: z :: r) pos))
    | _ => false
  | .or a b, e => match e with
    | .BoolOp .Or (x :: y :: r) pos => chkE T C B I a x && (match r with
      | [] => chkE T C B I b y
      | z :: r => chkE T C B I b (.BoolOp .Or (y :: z :: r) pos))
    | _ => false
  | .not a, e => match e with
    | .UnaryOp .Not x _ => chkE T C B I a x
    | _ => false
  | .ite c a b, e => match e with
    | .IfExp x y z _ => chkT T C B I c x && (chkE T C B I a y && chkE T C B I b z)
    | _ => false
  | .tup es, e => match e with
    | .Tuple xs _ _ => chkL T C B I es xs
    | _ => false
  | .lst es, e => match e with
    | .List xs _ => chkL T C B I es xs
    | _ => false
  | .lsc es, e => match e with
    | .List xs _ => chkL T C B I es xs
    | _ => false
  | .dcc ks es, e => match e with
    | .Dict keys vals _ => chkD T C B I es ks keys vals && !keys.isEmpty
    | _ => false
  | .gin g a neg, e => match e with
    | .Compare x [op] [.Name y _] _ => (op == if neg then CmpOp.NotIn else CmpOp.In) && (y == B.gnm g && (gl I y && (C.hasD g && chkE T C B I a x)))
    | _ => false
  | .gix g a, e => match e with
    | .Subscript (.Name y _) x _ => y == B.gnm g && (gl I y && (C.hasD g && (noSlice x && chkE T C B I a x)))
    | _ => false
  | .idx a i, e => match e with
    | .Subscript x y _ => noSlice y && (chkE T C B I a x && chkE T C B I i y)
    | _ => false
  | .slc a lo hi, e => match e with
    | .Subscript x (.Slice l h none _) _ => chkE T C B I a x && (chkO T C B I lo l && chkO T C B I hi h)
    | _ => false
  | .rev a, e => match e with
    | .Subscript x (.Slice none none (some (.UnaryOp .USub (.Constant (.int 1) _ _) _)) _) _ => chkE T C B I a x
    | _ => false
  | .att a f, e => match e with
    | .Attribute x y _ => y == T.atn f && (noSup x && chkE T C B I a x)
    | _ => false
  | .cal f es, e => match e with
    | .Call (.Name x _) args [] _ => x == B.fnm f && (gl I x && (C.hasF f && (plainArgs args && chkL T C B I es args)))
    | _ => false
  | .mak c es, e => match e with
    | .Call (.Name x _) args [] _ => x == B.cnm c && (gl I x && (C.hasI c && (plainArgs args && chkL T C B I es args)))
    | _ => false
  | .mkc c es, e => match e with
    | .Call (.Name x _) args [] _ => x == B.cnm c && (gl I x && (C.hasI c && (plainArgs args && chkL T C B I es args)))
    | _ => false
  | .clm _ _ _, _ => false
  | .mkv _ _ _, _ => false
  | .mth o m es, e => match e with
    | .Call (.Attribute x y apos) args [] pos => y == T.atn m && (noSup x && (decide (args.length < 30) && (apos.endLine == pos.line && (plainArgs args && (chkE T C B I o x && chkL T C B I es args)))))
    | _ => false
  | .blt b es, e => match e with
    | .Call (.Name x _) (a :: r) [] _ => x == bltName b && (gl I x && (plainArgs (a :: r) && chkL T C B I es (a :: r)))
    | _ => false
  | .bmt m o es, e => match e with
    | .Call (.Attribute x y apos) [a] [] pos => y == bmtName m && (bmtOk m && (noSup x && (apos.endLine == pos.line && (plainArgs [a] && (chkE T C B I o x && chkL T C B I es [a])))))
    | _ => false
  | .isi a ts, e => match e with
    | .Call (.Name f _) [x, y] [] _ => f == ("isinstance" : Str) && (gl I f && (plainArgs [x] && (chkE T C B I a x && (match y with
      | .Tuple ys _ _ => chkTys C B I ts ys && (!ts.isEmpty && decide (ts.length ≤ 100))
      | y => (match ts with
        | [t] => chkTy C B I t y
        | _ => false)))))
    | _ => false
  | .com own t i c a, e => match e with
    | .ListComp x [⟨tg, iter, ifs, 0⟩] scope _ => blkC I.N I.sc scope (own.map fun j => (I.N.getD j Str.empty, j)) && (noSet iter && (t.ix.all (fun j => own.contains j) && (chkI T C B I i tg iter && (chkG T C B (I.blk scope) t tg && (chkO' T C B (I.blk scope) c ifs && chkE T C B (I.blk scope) a x)))))
    | _ => false
  | .fst es, e => match e with
    | .JoinedStr (v1 :: v2 :: r) _ => chkF T C B I es (v1 :: v2 :: r)
    | _ => false
  | .hol, _ => true
  | .dnw, e => match e with
    | .Dict [] [] _ => true
    | _ => false
def chkT (T : Tab) (C : Ctx) (B : Gb) (I : Inf) : CE → Expr → Bool
  | .hol, _ => true
  | .con d, e => chkCon d e
  | .var i, e => match e with
    | .Name x _ => nmV I i x
    | _ => false
  | .glo g, e => match e with
    | .Name x _ => x == B.gnm g && (gl I x && C.hasG g)
    | _ => false
  | .cmp o a b, e => match e with
    | .Compare x [op] [y] _ => copB o op && (!behindInMarks (copOf o) y && (chkE T C B I a x && chkE T C B I b y))
    | _ => false
  | .chn o p a b c, e => match e with
    | .Compare x [op, oq] [y, z] _ => copB o op && (copB p oq && (!behindInMarks (copOf p) z && (chkE T C B I a x && (chkE T C B I b y && chkE T C B I c z))))
    | _ => false
  | .and a b, e => match e with
    | .BoolOp .And (x :: y :: r) pos => chkT T C B I a x && (match r with
      | [] => chkT T C B I b y
      | z :: r => chkT T C B I b (.BoolOp .And (y :: z :: r) pos))
    | _ => false
  | .or a b, e => match e with
    | .BoolOp .Or (x :: y :: r) pos => chkT T C B I a x && (match r with
      | [] => chkT T C B I b y
      | z :: r => chkT T C B I b (.BoolOp .Or (y :: z :: r) pos))
    | _ => false
  | .not a, e => match e with
    | .UnaryOp .Not x _ => chkT T C B I a x
    | _ => false
  | .gin g a neg, e => match e with
    | .Compare x [op] [.Name y _] _ => (op == if neg then CmpOp.NotIn else CmpOp.In) && (y == B.gnm g && (gl I y && (C.hasD g && chkE T C B I a x)))
    | _ => false
  | .idx a i, e => match e with
    | .Subscript x y _ => noSlice y && (chkE T C B I a x && chkE T C B I i y)
    | _ => false
  | .att a f, e => match e with
    | .Attribute x y _ => y == T.atn f && (noSup x && chkE T C B I a x)
    | _ => false
  | .cal f es, e => match e with
    | .Call (.Name x _) args [] _ => x == B.fnm f && (gl I x && (C.hasF f && (plainArgs args && chkL T C B I es args)))
    | _ => false
  | .mth o m es, e => match e with
    | .Call (.Attribute x y apos) args [] pos => y == T.atn m && (noSup x && (decide (args.length < 30) && (apos.endLine == pos.line && (plainArgs args && (chkE T C B I o x && chkL T C B I es args)))))
    | _ => false
  | .blt b es, e => match e with
    | .Call (.Name x _) (a :: r) [] _ => x == bltName b && (gl I x && (plainArgs (a :: r) && chkL T C B I es (a :: r)))
    | _ => false
  | .bmt m o es, e => match e with
    | .Call (.Attribute x y apos) [a] [] pos => y == bmtName m && (bmtOk m && (noSup x && (apos.endLine == pos.line && (plainArgs [a] && (chkE T C B I o x && chkL T C B I es [a])))))
    | _ => false
  | .isi a ts, e => match e with
    | .Call (.Name f _) [x, y] [] _ => f == ("isinstance" : Str) && (gl I f && (plainArgs [x] && (chkE T C B I a x && (match y with
      | .Tuple ys _ _ => chkTys C B I ts ys && (!ts.isEmpty && decide (ts.length ≤ 100))
      | y => (match ts with
        | [t] => chkTy C B I t y
        | _ => false)))))
    | _ => false
  | _, _ => false
def chkL (T : Tab) (C : Ctx) (B : Gb) (I : Inf) : CL → List Expr → Bool
  | .nil, es => es.isEmpty
  | .one a r, es => match es with
    | e :: es => plainArgs [e] && (chkE T C B I a e && chkL T C B I r es)
    | _ => false
  | .sta a r, es => match es with
    | .Starred e _ :: es => chkE T C B I a e && chkL T C B I r es
    | _ => false
def chkF (T : Tab) (C : Ctx) (B : Gb) (I : Inf) : CL → List Expr → Bool
  | .nil, es => es.isEmpty
  | .one a r, es => match es with
    | .FormattedValue x c none _ :: es => decide (c = -1) && (chkE T C B I a x && chkF T C B I r es)
    | .Constant (.str s) _ _ :: es => (match a with
      | .con (.str t) => s == t
      | _ => false) && chkF T C B I r es
    | _ => false
  | .sta _ _, _ => false
def chkD (T : Tab) (C : Ctx) (B : Gb) (I : Inf) : CL → List L2.Key → List (Option Expr) → List Expr → Bool
  | .nil, ks, keys, vals => ks.isEmpty && (keys.isEmpty && vals.isEmpty)
  | .one a r, ks, keys, vals => match ks, keys, vals with
    | k :: ks, some ke :: keys, v :: vals => chkKey k ke && (chkE T C B I a v && chkD T C B I r ks keys vals)
    | _, _, _ => false
  | .sta _ _, _, _, _ => false
def chkO (T : Tab) (C : Ctx) (B : Gb) (I : Inf) : CO → Option Expr → Bool
  | .no, e => e.isNone
  | .so a, e => match e with
    | some x => chkE T C B I a x
    | none => false
def chkO' (T : Tab) (C : Ctx) (B : Gb) (I : Inf) : CO → List Expr → Bool
  | .no, e => e.isEmpty
  | .so a, e => match e with
    | [x] => chkT T C B I a x
    | _ => false
def chkI (T : Tab) (C : Ctx) (B : Gb) (I : Inf) : CI → Expr → Expr → Bool
  | .seq a, _, e => chkE T C B I a e
  | .rng a, _, e => match e with
    | .Call (.Name f _) [x] [] _ => f == ("range" : Str) && (gl I f && (plainArgs [x] && chkE T C B I a x))
    | _ => false
  | .rng2 a b, _, e => match e with
    | .Call (.Name f _) [x, y] [] _ => f == ("range" : Str) && (gl I f && (plainArgs [x, y] && (chkE T C B I a x && chkE T C B I b y)))
    | _ => false
  | .rng3 a b c, _, e => match e with
    | .Call (.Name f _) [x, y, .UnaryOp .USub (.Constant (.int 1) _ _) _] [] _ => decide (c = -1) && (f == ("range" : Str) && (gl I f && (plainArgs [x, y] && (chkE T C B I a x && chkE T C B I b y))))
    | _ => false
  | .enu a, tg, e => match tg, e with
    | .Tuple _ _ _, .Call (.Name f _) [x] [] _ => f == ("enumerate" : Str) && (gl I f && (plainArgs [x] && chkE T C B I a x))
    | _, _ => false
  | .zip a b, tg, e => match tg, e with
    | .Tuple _ _ _, .Call (.Name f _) [x, y] [] _ => f == ("zip" : Str) && (gl I f && (plainArgs [x, y] && (chkE T C B I a x && chkE T C B I b y)))
    | _, _ => false
def chkG (T : Tab) (C : Ctx) (B : Gb) (I : Inf) : CT → Expr → Bool
  | .nam i, e => match e with
    | .Name x _ => nmS I i x
    | _ => false
  | .tup ts, e => match e with
    | .Tuple es _ _ => chkGs T C B I ts es
    | _ => false
  | .sub a i, e => match e with
    | .Subscript x y _ => noSlice y && (chkE T C B I a x && chkE T C B I i y)
    | _ => false
  | .att a f, e => match e with
    | .Attribute x y _ => y == T.atn f && chkE T C B I a x
    | _ => false
  | .hdt i j, e => match e with
    | .Tuple [.Name x _, .Starred (.Name y _) _] _ _ => nmS I i x && nmS I j y
    | _ => false
def chkGs (T : Tab) (C : Ctx) (B : Gb) (I : Inf) : CTL → List Expr → Bool
  | .nil, es => es.isEmpty
  | .cons t r, es => match es with
    | e :: es => plainArgs [e] && (chkG T C B I t e && chkGs T C B I r es)
    | _ => false
end
end SX
end
section
set_option Elab.async false
set_option linter.all false
set_option maxRecDepth 100000
set_option maxHeartbeats 4000000
/-! SX22: checked code computes what the text does (expressions). -/
namespace SX
open PySem PySem.Spec PyProof.Rows L2
theorem b2 {a b : Bool} (h : (a && b) = true) : a = true ∧ b = true := Bool.and_eq_true_iff.mp h
theorem b3 {a b c : Bool} (h : (a && (b && c)) = true) : a = true ∧ b = true ∧ c = true := ⟨(b2 h).1, b2 (b2 h).2⟩
theorem b4 {a b c d : Bool} (h : (a && (b && (c && d))) = true) : a = true ∧ b = true ∧ c = true ∧ d = true := ⟨(b2 h).1, b3 (b2 h).2⟩
theorem b5 {a b c d e : Bool} (h : (a && (b && (c && (d && e)))) = true) : a = true ∧ b = true ∧ c = true ∧ d = true ∧ e = true := ⟨(b2 h).1, b4 (b2 h).2⟩
theorem b6 {a b c d e f : Bool} (h : (a && (b && (c && (d && (e && f))))) = true) : a = true ∧ b = true ∧ c = true ∧ d = true ∧ e = true ∧ f = true := ⟨(b2 h).1, b5 (b2 h).2⟩
theorem b7 {a b c d e f g : Bool} (h : (a && (b && (c && (d && (e && (f && g)))))) = true) : a = true ∧ b = true ∧ c = true ∧ d = true ∧ e = true ∧ f = true ∧ g = true := ⟨(b2 h).1, b6 (b2 h).2⟩
section
variable {X : Cx} {T : Tab} {W : WX} {C : Ctx} {k : Nat} {B : Gb} {I : Inf}
theorem _root_.L2.PE.of {e : Expr} {m m' : Env → EM D} (h : PE X e (tE T W m')) (q : ∀ env, m env = m' env) : PE X e (tE T W m) := by
  have e : m = m' := funext q
  rw [e]; exact h
theorem _root_.L2.PT.of {e : Expr} {m m' : Env → EM D} (h : PT X e (tEt T W m')) (q : ∀ env, m env = m' env) : PT X e (tEt T W m) := by
  have e : m = m' := funext q
  rw [e]; exact h
theorem _root_.L2.PW.of {e : Expr} {m m' : Env → EM D} (h : PW X e (tEt T W m')) (q : ∀ env, m env = m' env) : PW X e (tEt T W m) := by
  have e : m = m' := funext q
  rw [e]; exact h
theorem _root_.L2.PA.of {e : List Expr} {m m' : Env → EM (List D)} (h : PA X e (tA T W m')) (q : ∀ env, m env = m' env) : PA X e (tA T W m) := by
  have e : m = m' := funext q
  rw [e]; exact h
theorem gl_ok {x : Str} (t : Told X I) (h : gl I x = true) : Gl X x ∧ (x == ("__debug__" : Str)) = false := by
  obtain ⟨h1, h2⟩ := b2 h
  refine ⟨?_, by simpa using h2⟩
  show X.env.scope.names.lookup x = _
  rw [t.sc]
  exact eq_of_beq h1
theorem nmV_ok {i : Nat} {x : Str} (t : Told X I) (h : nmV I i x = true) : X.N[i]? = some x ∧ Vis X.env.scope x ∧ (x == ("__debug__" : Str)) = false ∧ (x == ("__classdict__" : Str)) = false := by
  obtain ⟨h1, h2⟩ := b2 h
  have e : I.N[i]? = some x := eq_of_beq h1
  refine ⟨by rw [t.N]; exact e, ?_, t.dbg x (List.mem_of_getElem? e)⟩
  unfold Vis
  rw [t.sc]
  split at h2
  · exact .inl (by assumption)
  · exact .inr (.inl (by assumption))
  · exact .inr (.inr (by assumption))
  · exact absurd h2 Bool.false_ne_true
theorem nmS_ok {i : Nat} {x : Str} (t : Told X I) (h : nmS I i x = true) : X.N[i]? = some x ∧ L2.Loc X.env.scope x ∧ (X.fn x = true ∨ X.env.scope.names.lookup x = some .local) := by
  obtain ⟨h1, h2⟩ := b2 h
  have e : I.N[i]? = some x := eq_of_beq h1
  refine ⟨by rw [t.N]; exact e, ?_⟩
  unfold L2.Loc
  rw [t.sc]
  split at h2
  · exact ⟨.inl (by assumption), .inr (by assumption)⟩
  · exact ⟨.inr (by assumption), .inl (t.fb x h2)⟩
  · exact absurd h2 Bool.false_ne_true
theorem noSup_ok {o : Expr} {f : Str} {env : PySem.Env} {whole : PySem.Sem Value} (h : noSup o = true) : attributeBase o f env whole = whole := by
  unfold attributeBase
  split
  · exact absurd h Bool.false_ne_true
  · rfl
theorem noSet_ok {e : Expr} {env : PySem.Env} (h : noSet e = true) (x : Value) : foldedSetIterable e env x = pure x := by
  unfold foldedSetIterable
  split
  · exact absurd h Bool.false_ne_true
  · rfl
theorem one_star {e : Expr} {es : List Expr} (h : plainArgs [e] = true) (env : PySem.Env) : starEach (e :: es) env = (false, eval e env) :: starEach es env := by
  cases e <;> first | rfl | exact absurd h Bool.false_ne_true
theorem con_ok {d : D} {e : Expr} (h : chkCon d e = true) : PE X e (tE T W fun _ => ret d) := by
  unfold chkCon at h
  split at h
  · exact ok_con pe_non fun _ _ => non_rep
  · have e := eq_of_beq h; subst e; exact ok_con pe_bl fun _ _ => bl_rep
  · have e := of_decide_eq_true h; subst e; exact ok_con pe_int fun _ _ => int_rep
  · have e := eq_of_beq h; subst e; exact ok_con pe_str fun _ _ => str_rep
  · exact absurd h Bool.false_ne_true
theorem key_ok {c : L2.Key} {e : Expr} (h : chkKey c e = true) : PE X e (tC (kV c)) := by
  unfold chkKey at h
  split at h
  · have e := of_decide_eq_true h; subst e; exact pe_int
  · have e := eq_of_beq h; subst e; exact pe_str
  · exact absurd h Bool.false_ne_true
theorem glo_ok {x : Str} {p : Pos} {i : Nat} (g : Good X T C B k) (t : Told X I) (h : (x == B.gnm i && (gl I x && C.hasG i)) = true) : PE X (.Name x p) (tE T W fun _ => ofO (C.gvs.lookup i)) := by
  obtain ⟨h1, h2⟩ := b2 h
  obtain ⟨h2, h3⟩ := b2 h2
  have e := eq_of_beq h1
  subst e
  obtain ⟨hg, hd⟩ := gl_ok t h2
  obtain ⟨u, v, hm, rv, rp⟩ := g.gvs i h3
  refine (pe_glob hg hm rv hd).imp fun σ H Q ⟨io, h, env, S, r, q⟩ => ?_
  obtain ⟨d, e, q2⟩ := Post.ofO' q
  exact Post.here q2 S (rp d _ _ e)
theorem ty_ok {c : TyN} {e : Expr} (g : Good X T C B k) (t : Told X I) (h : chkTy C B I c e = true) : ∃ x p, e = Expr.Name x p ∧ TnG X T c x := by
  unfold chkTy at h
  split at h
  · rename_i x p
    obtain ⟨h12, h3⟩ := b2 h
    obtain ⟨h1, h2⟩ := b2 h12
    have e := eq_of_beq h1
    obtain ⟨hg, hd⟩ := gl_ok t h2
    refine ⟨x, p, rfl, ⟨fun p => ?_⟩⟩
    cases c with
    | int => exact pe_bltn hg (by rw [e]; exact g.blt .int) (by rw [e]; exact boot_int) rfl (by rw [e]; show ("int" : Str) ≠ _; decide) hd
    | bool => exact pe_bltn hg (by rw [e]; exact g.blt .bool) (by rw [e]; exact boot_bool) rfl (by rw [e]; show ("bool" : Str) ≠ _; decide) hd
    | str => exact pe_bltn hg (by rw [e]; exact g.blt .str) (by rw [e]; exact boot_str) rfl (by rw [e]; show ("str" : Str) ≠ _; decide) hd
    | list => exact pe_bltn hg (by rw [e]; exact g.blt .list) (by rw [e]; exact boot_list) rfl (by rw [e]; show ("list" : Str) ≠ _; decide) hd
    | tuple => exact pe_bltn hg (by rw [e]; exact g.blt .tuple) (by rw [e]; exact boot_tuple) rfl (by rw [e]; show ("tuple" : Str) ≠ _; decide) hd
    | cls c => exact pe_glob hg (by rw [e]; exact g.cls c h3) rfl hd
  · exact absurd h Bool.false_ne_true
theorem tys_ok (g : Good X T C B k) (t : Told X I) : ∀ {cs : List TyN} {es : List Expr}, chkTys C B I cs es = true → Paired (fun (t : TyN) (e : Expr) => ∃ x p, e = Expr.Name x p ∧ TnG X T t x) cs es
  | [], [], _ => .nil
  | [], _ :: _, h => absurd h Bool.false_ne_true
  | _ :: _, [], h => absurd h Bool.false_ne_true
  | c :: cs, e :: es, h => .cons (ty_ok g t (b2 h).1) (tys_ok g t (b2 h).2)
/-- a test of a value whose tree is the plain one -/
def plainT : Expr → Bool
  | .UnaryOp .Not _ _ => false
  | .BoolOp _ _ _ => false
  | .IfExp _ _ _ _ => false
  | .Compare _ _ _ _ => false
  | _ => true
theorem plainT_ok {e : Expr} {env : PySem.Env} (h : plainT e = true) (whole : PySem.Sem Value) : isTrue e env whole = (do let v ← whole; standAt e.pos; holding [v] (truthy v)) := by
  cases e <;> first | rfl | exact absurd h Bool.false_ne_true | skip
  rename_i op x p
  cases op <;> first | rfl | exact absurd h Bool.false_ne_true
end
end SX
end
section
set_option Elab.async false
set_option linter.all false
set_option maxRecDepth 100000
set_option maxHeartbeats 4000000
/-! SX23: .. the main induction over expressions. -/
namespace SX
open PySem PySem.Spec PyProof.Rows L2
section
variable {T : Tab} {C : Ctx} {k : Nat} {B : Gb}
theorem gin_test {X : Cx} {W : WX} {x : Str} {i : Nat} {neg : Bool} {a : Expr} {px pos : Pos} {m : Env → EM D} (G : GdG X T C x i) (hg : Gl X x) (hd : (x == ("__debug__" : Str)) = false) (ha : PE X a (tE T W m)) :
    PT X (.Compare a [if neg then .NotIn else .In] [.Name x px] pos) (tEt T W fun env => bnd (m env) (ginX C i neg)) := by
  obtain ⟨d, es, n, hm, kd, hk⟩ := G.ok
  have fin : ∀ {σ : L2.St} {H : Hp} {Q : Bool → Hp → Prop}, tEt T W (fun env => bnd (m env) (ginX C i neg)) σ H Q → tE T W m σ H fun y H1 => ∃ (z : Str) (r : Option Value), y = .str z ∧ PySem.W.nsIn X.K d z = some r ∧ Q (if neg then !r.isSome else r.isSome) H1 := fun ⟨io, h, env, S, r, q⟩ => by
    dsimp only at q
    rw [bnd_bnd] at q
    refine step S r q fun io1 h1 dd v H1 S1 G1 rd p1 => ?_
    cases dd <;> try exact False.elim p1
    rename_i z
    have ee : (bnd (ginX C i neg (.str z)) truD : EM Bool) = bnd (ofO (C.gd i)) (fun kvs => ret (if neg then !(kvs.lookup z).isSome else (kvs.lookup z).isSome)) := bnd_bnd _ _ _
    rw [ee] at p1
    obtain ⟨kvs, e, p2⟩ := Post.ofO p1
    obtain ⟨r, e1, e2, _⟩ := hk kvs e z
    unfold Rep at rd
    exact ⟨z, r, rd, e1, by rw [e2]; exact Post.here p2 S1 rfl⟩
  cases neg with
  | false =>
    refine (pt_cmpR (op_in_kd kd) ha (pe_glob (v := .ref d) hg hm rfl hd) (by rfl)).imp fun σ H Q q => ?_
    refine (?_ : tE T W m σ H _)
    obtain ⟨io, h, env, S, r, p⟩ := fin q
    exact ⟨io, h, env, S, r, p.mono fun y H1 ⟨z, r, e1, e2, e3⟩ => ⟨z, r, e1, rfl, e2, _, rfl, e3⟩⟩
  | true =>
    refine (pt_cmpR (op_notIn_kd kd) ha (pe_glob (v := .ref d) hg hm rfl hd) (by rfl)).imp fun σ H Q q => ?_
    refine (?_ : tE T W m σ H _)
    obtain ⟨io, h, env, S, r, p⟩ := fin q
    exact ⟨io, h, env, S, r, p.mono fun y H1 ⟨z, r, e1, e2, e3⟩ => ⟨z, r, e1, rfl, e2, _, rfl, e3⟩⟩
theorem nil_args {X : Cx} {I : Inf} {es : CL} (h : chkL T C B I es [] = true) : es = .nil := by
  cases es with
  | nil => rfl
  | one a r => simp [chkL] at h
  | sta a r => simp [chkL] at h
theorem noSlice_ok {b : Expr} (h : noSlice b = true) : (∀ o i, subscripted b false o i = operate [o, i] (getItem o i)) ∧ ∀ o i, subscripted b true o i = runValue (.builtin "lifetime.subscript" ⟨[o, i], []⟩) := by
  cases b <;> first | exact absurd h Bool.false_ne_true | exact ⟨fun _ _ => rfl, fun _ _ => rfl⟩
theorem off {P : Prop} (h : false = true) : P := absurd h Bool.false_ne_true
theorem copB_ok {o : COp} {op : CmpOp} (h : copB o op = true) : op = copOf o := eq_of_beq h
theorem opB_ok {o : BOp} {op : Operator} (h : opB o op = true) : op = opOf o := eq_of_beq h
theorem notB {b : Bool} (h : (!b) = true) : b = false := by simpa using h
theorem ownIds (N : List Str) (own : List Nat) : (own.map fun j => (N.getD j Str.empty, j)).map (·.2) = own := by
  rw [List.map_map]
  exact List.map_id _
theorem assignN {es : List Expr} {env : PySem.Env} : ∀ {ts : CTL} {I : Inf}, chkGs T C B I ts es = true → (assignEach es env).length = ts.len ∧ (assignEach es env).findIdx? (·.1) = none := by
  induction es with
  | nil =>
    intro ts I h
    cases ts with
    | nil => exact ⟨rfl, rfl⟩
    | cons t r => simp [chkGs] at h
  | cons e es ih =>
    intro ts I h
    cases ts with
    | nil => simp [chkGs] at h
    | cons t r =>
      unfold chkGs at h
      obtain ⟨h1, h2⟩ := b2 h
      obtain ⟨h2, h3⟩ := b2 h2
      obtain ⟨i1, i2⟩ := ih h3
      have e1 : assignEach (e :: es) env = (false, assign e env) :: assignEach es env := by cases e <;> first | rfl | exact off h1
      rw [e1]
      refine ⟨by rw [List.length_cons, i1]; rfl, ?_⟩
      rw [List.findIdx?_cons]
      simp [i2]
end
end SX
end
section
set_option Elab.async false
set_option linter.all false
set_option maxRecDepth 100000
set_option maxHeartbeats 8000000
/-! SX24: the main induction over expressions. -/
namespace SX
open PySem PySem.Spec PyProof.Rows L2
section
variable {T : Tab} {C : Ctx} {k : Nat} {B : Gb}
theorem hr0 {X : Cx} (g : Good X T C B k) : Room k X.A := g.room.mono (Nat.le_succ _)
theorem hu65 {X : Cx} (g : Good X T C B k) : X.A.units + 65 < cLine := by have := g.room.un; omega
theorem hu1 {X : Cx} (g : Good X T C B k) : X.A.units + 1 < cLine := by have := g.room.un; omega
theorem cmpO {X : Cx} (g : Good X T C B k) (o : COp) : OpR X (compareOp (copOf o)) (rCX T C o) := or_cmpX g.hT (hu65 g) g.room g.gd g.eq o
theorem cmpP {X : Cx} (g : Good X T C B k) (o : COp) : OpR X (compareOp (copOf o)) (rC T (cmpD o)) := or_cmp g.hT (hu65 g) o
theorem pw_bool {X : Cx} {op : BoolOp} {es : List Expr} {pos : Pos} {t : TT} (h : PT X (.BoolOp op es pos) t) : PW X (.BoolOp op es pos) t := ⟨fun wh pins s σ H Q I q => h.run pins s σ H Q I q⟩
theorem plain3 {x y : Expr} {p q : Pos} {kk : Nat} (h : plainArgs [x, y] = true) : plainArgs [x, y, .UnaryOp .USub (.Constant (.int 1) kk p) q] = true := by
  cases x <;> first | exact off h | (cases y <;> first | exact off h | rfl)
mutual
theorem okE : ∀ (c : CE) {X : Cx} {W : WX} {I : Inf} (g : Good X T C B k) (t : Told X I) (tk : Takes X W) (e : Expr), chkE T C B I c e = true → PE X e (tE T W (evE C c))
  | .con d, X, W, I, g, t, tk, e, h => (con_ok (by unfold chkE at h; exact h)).of fun env => rfl
  | .var i, X, W, I, g, t, tk, e, h => by
    unfold chkE at h
    split at h
    · obtain ⟨h1, h2, h3, h4⟩ := nmV_ok t h
      exact (ok_var (pe_var h1 h2 h3 h4)).of fun env => rfl
    · exact off h
  | .frz i, X, W, I, g, t, tk, e, h => by
    unfold chkE at h
    split at h
    · obtain ⟨h1, h2, h3, h4⟩ := nmV_ok t h
      exact (ok_frz (pe_var h1 h2 h3 h4)).of fun env => rfl
    · exact off h
  | .glo i, X, W, I, g, t, tk, e, h => by
    unfold chkE at h
    split at h
    · exact (glo_ok g t h).of fun env => rfl
    · exact off h
  | .neg a, X, W, I, g, t, tk, e, h => by
    unfold chkE at h
    split at h
    · exact (ok_neg (okE a g t tk _ h)).of fun env => rfl
    · exact off h
  | .bin o a b, X, W, I, g, t, tk, e, h => by
    unfold chkE at h
    split at h
    · obtain ⟨h1, h2, h3⟩ := b3 h
      have e := opB_ok h1
      subst e
      exact (ok_addX g.hT g.room g.gd tk g.add (okE a g t tk _ h2) (okE b g t tk _ h3)).of fun env => rfl
    · exact off h
  | .cmp o a b, X, W, I, g, t, tk, e, h => by
    unfold chkE at h
    split at h
    · obtain ⟨h1, h2, h3, h4⟩ := b4 h
      have e := copB_ok h1
      subst e
      exact (ok_cmpX (cmpO g o) (notB h2) (okE a g t tk _ h3) (okE b g t tk _ h4)).of fun env => rfl
    · exact off h
  | .chn o p a b c, X, W, I, g, t, tk, e, h => by
    unfold chkE at h
    split at h
    · obtain ⟨h1, h2, h3, h4, h5, h6⟩ := b6 h
      have e := copB_ok h1
      have e2 := copB_ok h2
      subst e e2
      exact (ok_chn (cmpP g o) (cmpP g p) (notB h3) (okE a g t tk _ h4) (okE b g t tk _ h5) (okE c g t tk _ h6)).of fun env => rfl
    · exact off h
  | .and a b, X, W, I, g, t, tk, e, h => by
    unfold chkE at h
    split at h
    · rename_i x y r pos
      obtain ⟨h1, h2⟩ := b2 h
      have hb : PE X (.BoolOp .And (y :: r) pos) (tE T W (evE C b)) := by
        cases r with
        | nil => exact pe_one (okE b g t tk _ h2)
        | cons z r => exact okE b g t tk _ h2
      exact (ok_and g.hT (okE a g t tk _ h1) hb).of fun env => rfl
    · exact off h
  | .or a b, X, W, I, g, t, tk, e, h => by
    unfold chkE at h
    split at h
    · rename_i x y r pos
      obtain ⟨h1, h2⟩ := b2 h
      have hb : PE X (.BoolOp .Or (y :: r) pos) (tE T W (evE C b)) := by
        cases r with
        | nil => exact pe_one (okE b g t tk _ h2)
        | cons z r => exact okE b g t tk _ h2
      exact (ok_or g.hT (okE a g t tk _ h1) hb).of fun env => rfl
    · exact off h
  | .not a, X, W, I, g, t, tk, e, h => by
    unfold chkE at h
    split at h
    · exact (ok_not g.hT (okE a g t tk _ h)).of fun env => rfl
    · exact off h
  | .ite c a b, X, W, I, g, t, tk, e, h => by
    unfold chkE at h
    split at h
    · obtain ⟨h1, h2, h3⟩ := b3 h
      exact (ok_ite (okT c g t tk _ h1) (okE a g t tk _ h2) (okE b g t tk _ h3)).of fun env => rfl
    · exact off h
  | .tup es, X, W, I, g, t, tk, e, h => by
    unfold chkE at h
    split at h
    · exact (ok_tup (okL es g t tk _ h)).of fun env => rfl
    · exact off h
  | .lst es, X, W, I, g, t, tk, e, h => by
    unfold chkE at h
    split at h
    · exact (ok_lst (okL es g t tk _ h)).of fun env => rfl
    · exact off h
  | .lsc es, X, W, I, g, t, tk, e, h => by
    unfold chkE at h
    split at h
    · exact (ok_lsc (okL es g t tk _ h)).of fun env => rfl
    · exact off h
  | .dcc ks es, X, W, I, g, t, tk, e, h => by
    unfold chkE at h
    split at h
    · rename_i keys vals pos
      obtain ⟨h1, h2⟩ := b2 h
      obtain ⟨hpp, hall, hl, hk, hpl⟩ := okD es g t tk ks keys vals pos h1
      exact (ok_dcc hpp hall hl hk (by intro z; rw [z] at h2; exact off h2) hpl).of fun env => rfl
    · exact off h
  | .gin i a neg, X, W, I, g, t, tk, e, h => by
    unfold chkE at h
    split at h
    · obtain ⟨h1, h2, h3, h4, h5⟩ := b5 h
      have e1 := eq_of_beq h1
      have e2 := eq_of_beq h2
      subst e1
      subst e2
      obtain ⟨hg, hd⟩ := gl_ok t h3
      exact (ok_gin (g.gdg i h4) hg hd (okE a g t tk _ h5)).of fun env => rfl
    · exact off h
  | .gix i a, X, W, I, g, t, tk, e, h => by
    unfold chkE at h
    split at h
    · obtain ⟨h1, h2, h3, h4, h5⟩ := b5 h
      have e1 := eq_of_beq h1
      subst e1
      obtain ⟨hg, hd⟩ := gl_ok t h2
      exact (ok_gix (g.gdg i h3) hg hd (okE a g t tk _ h5) (noSlice_ok h4).1).of fun env => rfl
    · exact off h
  | .idx a b, X, W, I, g, t, tk, e, h => by
    unfold chkE at h
    split at h
    · obtain ⟨h1, h2, h3⟩ := b3 h
      exact (ok_idxX g.hT g.room g.gd tk g.item (okE a g t tk _ h2) (okE b g t tk _ h3) (noSlice_ok h1)).of fun env => rfl
    · exact off h
  | .slc a lo hi, X, W, I, g, t, tk, e, h => by
    unfold chkE at h
    split at h
    · obtain ⟨h1, h2, h3⟩ := b3 h
      exact (ok_slc g.hT (okE a g t tk _ h1) (okO lo g t tk _ h2) (okO hi g t tk _ h3)).of fun env => rfl
    · exact off h
  | .rev a, X, W, I, g, t, tk, e, h => by
    unfold chkE at h
    split at h
    · exact (ok_rev (okE a g t tk _ h)).of fun env => rfl
    · exact off h
  | .att a f, X, W, I, g, t, tk, e, h => by
    unfold chkE at h
    split at h
    · obtain ⟨h1, h2, h3⟩ := b3 h
      have e1 := eq_of_beq h1
      subst e1
      exact (ok_att g.flds (g.att f) g.room g.gd (noSup_ok h2) (okE a g t tk _ h3)).of fun env => rfl
    · exact off h
  | .cal f es, X, W, I, g, t, tk, e, h => by
    unfold chkE at h
    split at h
    · rename_i x p args pos
      obtain ⟨h1, h2, h3, h4, h5⟩ := b5 h
      have e1 := eq_of_beq h1
      subst e1
      obtain ⟨hg, hd⟩ := gl_ok t h2
      obtain ⟨a, hm, hk, hF⟩ := g.fn f h3
      cases args with
      | nil =>
        have e2 := nil_args (X := X) h5
        subst e2
        exact (ok_cal0 hF (hr0 g) g.gd tk hg hm hk hd).of fun env => rfl
      | cons y ys => exact (ok_cal hF (hr0 g) g.gd tk hg hm hk hd h4 (okL es g t tk _ h5)).of fun env => rfl
    · exact off h
  | .mak c es, X, W, I, g, t, tk, e, h => by
    unfold chkE at h
    split at h
    · rename_i x p args pos
      obtain ⟨h1, h2, h3, h4, h5⟩ := b5 h
      have e1 := eq_of_beq h1
      subst e1
      obtain ⟨hg, hd⟩ := gl_ok t h2
      obtain ⟨hm, f, M, hF⟩ := g.ini c h3
      cases args with
      | nil =>
        have e2 := nil_args (X := X) h5
        subst e2
        exact (ok_mkg0 (fun _ => g_frz) M hF g.room g.gd tk hg hm hd).of fun env => rfl
      | cons y ys => exact (ok_mkg (fun _ => g_frz) M hF g.room g.gd tk hg hm hd h4 (okL es g t tk _ h5)).of fun env => rfl
    · exact off h
  | .mkc c es, X, W, I, g, t, tk, e, h => by
    unfold chkE at h
    split at h
    · rename_i x p args pos
      obtain ⟨h1, h2, h3, h4, h5⟩ := b5 h
      have e1 := eq_of_beq h1
      subst e1
      obtain ⟨hg, hd⟩ := gl_ok t h2
      obtain ⟨hm, f, M, hF⟩ := g.ini c h3
      cases args with
      | nil =>
        have e2 := nil_args (X := X) h5
        subst e2
        exact (ok_mkg0 (g := ret) (fun _ => g_ret) M hF g.room g.gd tk hg hm hd).of fun env => (bnd_pure _).symm
      | cons y ys => exact (ok_mkg (g := ret) (fun _ => g_ret) M hF g.room g.gd tk hg hm hd h4 (okL es g t tk _ h5)).of fun env => congrArg (bnd (evL C es env)) (funext fun vs => (bnd_pure (mkD C c vs)).symm)
    · exact off h
  | .clm f c es, X, W, I, g, t, tk, e, h => by unfold chkE at h; exact off h
  | .mkv i c es, X, W, I, g, t, tk, e, h => by unfold chkE at h; exact off h
  | .hol, X, W, I, g, t, tk, e, h => ⟨fun pins s σ H Q I ⟨io, h, env, S, r, p⟩ => False.elim p⟩
  | .dnw, X, W, I, g, t, tk, e, h => by
    unfold chkE at h
    split at h
    · exact (pe_dnewK).imp fun σ H Q ⟨io, h, env, S, r, p⟩ q hq => newC_post p S hq ⟨[], upd_same, rfl, Reps.nil⟩
    · exact off h
  | .mth o m es, X, W, I, g, t, tk, e, h => by
    unfold chkE at h
    split at h
    · rename_i x y apos args pos
      obtain ⟨h1, h2, h3, h4, h5, h6, h7⟩ := b7 h
      have e1 := eq_of_beq h1
      subst e1
      cases args with
      | nil =>
        have e2 := nil_args (X := X) h7
        subst e2
        exact (ok_mth0 (fun c hc => g.mth c m hc) (hr0 g) g.gd tk (noSup_ok h2) h4 (okE o g t tk _ h6)).of fun env => rfl
      | cons y ys => exact (ok_mth (fun c hc => g.mth c m hc) (hr0 g) g.gd tk (noSup_ok h2) h5 (of_decide_eq_true h3) h4 (okE o g t tk _ h6) (okL es g t tk _ h7)).of fun env => rfl
    · exact off h
  | .blt b es, X, W, I, g, t, tk, e, h => by
    unfold chkE at h
    split at h
    · obtain ⟨h1, h2, h3, h4⟩ := b4 h
      have e1 := eq_of_beq h1
      obtain ⟨hg, hd⟩ := gl_ok t h2
      exact (ok_blt g.hT g.calm g.room g.gd g.len e1 hg (by rw [e1]; exact g.blt b) h3 (okL es g t tk _ h4)).of fun env => rfl
    · exact off h
  | .bmt m o es, X, W, I, g, t, tk, e, h => by
    unfold chkE at h
    split at h
    · obtain ⟨h1, h2, h3, h4, h5, h6, h7⟩ := b7 h
      exact (ok_bmt g.hT (hu65 g) h2 (eq_of_beq h1) (noSup_ok h3) h5 h4 (okE o g t tk _ h6) (okL es g t tk _ h7)).of fun env => rfl
    · exact off h
  | .isi a ts, X, W, I, g, t, tk, e, h => by
    unfold chkE at h
    split at h
    · obtain ⟨h1, h2, h3, h4, h5⟩ := b5 h
      have e1 := eq_of_beq h1
      subst e1
      obtain ⟨hg, hd⟩ := gl_ok t h2
      split at h5
      · obtain ⟨h5, h6⟩ := b2 h5
        obtain ⟨h6, h7⟩ := b2 h6
        exact (ok_isiT g.hT g.isg hg g.isi (tys_ok g t h5) (by intro z; rw [z] at h6; exact off h6) (of_decide_eq_true h7) h3 (okE a g t tk _ h4)).of fun env => rfl
      · split at h5
        · obtain ⟨x, p, rfl, hx⟩ := ty_ok g t h5
          exact (ok_isi1 g.hT g.isg hg g.isi hx h3 (okE a g t tk _ h4)).of fun env => rfl
        · exact off h5
    · exact off h
  | .com own ct i c a, X, W, I, g, t, tk, e, h => by
    unfold chkE at h
    split at h
    · rename_i x tg iter ifs scope pos
      obtain ⟨h1, h2, h3, h4, h5, h6, h7⟩ := b7 h
      have hk : BlkOk X.N X.env.scope scope (own.map fun j => (I.N.getD j Str.empty, j)) := by
        rw [t.N, t.sc]
        exact blkOk_by h1
      have q := ok_com (pos := pos) g.calm t.nd (okI i g t tk tg iter h4) hk (ix := ct.ix) (fun j hj => by
          rw [ownIds]
          have := List.all_eq_true.mp h3 j hj
          exact List.elem_iff.mp this) (fun s H c cl fp => okG ct (g.blk) (t.blk) tg h5) (fun s H cc cl fp => okO' c (g.blk) (t.blk) takesN ifs h6) (fun s H c cl fp => okE a (g.blk) (t.blk) takesN x h7) (noSet_ok h2)
      rw [ownIds] at q
      exact q.of fun env => rfl
    · exact off h
  | .fst es, X, W, I, g, t, tk, e, h => by
    unfold chkE at h
    split at h
    · obtain ⟨h1, h2⟩ := okF es g t tk _ h
      exact (ok_fst h1 h2).of fun env => rfl
    · exact off h
theorem okT : ∀ (c : CE) {X : Cx} {W : WX} {I : Inf} (g : Good X T C B k) (t : Told X I) (tk : Takes X W) (e : Expr), chkT T C B I c e = true → PT X e (tEt T W (evE C c))
  | .con d, X, W, I, g, t, tk, e, h => by
    unfold chkT at h
    exact (pt_plain g.hT (con_ok h) (plainT_ok (by
      unfold chkCon at h
      split at h <;> first | rfl | exact off h))).of fun env => rfl
  | .var i, X, W, I, g, t, tk, e, h => by
    unfold chkT at h
    split at h
    · obtain ⟨h1, h2, h3, h4⟩ := nmV_ok t h
      exact (pt_plain g.hT (ok_var (pe_var h1 h2 h3 h4)) (plainT_ok rfl)).of fun env => rfl
    · exact off h
  | .glo i, X, W, I, g, t, tk, e, h => by
    unfold chkT at h
    split at h
    · exact (pt_plain g.hT (glo_ok g t h) (plainT_ok rfl)).of fun env => rfl
    · exact off h
  | .cmp o a b, X, W, I, g, t, tk, e, h => by
    unfold chkT at h
    split at h
    · obtain ⟨h1, h2, h3, h4⟩ := b4 h
      have e := copB_ok h1
      subst e
      exact (tt_cmpX (cmpO g o) (notB h2) (okE a g t tk _ h3) (okE b g t tk _ h4)).of fun env => rfl
    · exact off h
  | .chn o p a b c, X, W, I, g, t, tk, e, h => by
    unfold chkT at h
    split at h
    · obtain ⟨h1, h2, h3, h4, h5, h6⟩ := b6 h
      have e := copB_ok h1
      have e2 := copB_ok h2
      subst e e2
      exact (tt_chn (cmpP g o) (cmpP g p) (notB h3) (okE a g t tk _ h4) (okE b g t tk _ h5) (okE c g t tk _ h6)).of fun env => rfl
    · exact off h
  | .and a b, X, W, I, g, t, tk, e, h => by
    unfold chkT at h
    split at h
    · rename_i x y r pos
      obtain ⟨h1, h2⟩ := b2 h
      have hb : PW X (.BoolOp .And (y :: r) pos) (tEt T W (evE C b)) := by
        cases r with
        | nil => exact pw_and1 (okT b g t tk _ h2)
        | cons z r => exact pw_bool (okT b g t tk _ h2)
      exact (tt_and (okT a g t tk _ h1) hb).pt.of fun env => rfl
    · exact off h
  | .or a b, X, W, I, g, t, tk, e, h => by
    unfold chkT at h
    split at h
    · rename_i x y r pos
      obtain ⟨h1, h2⟩ := b2 h
      have hb : PW X (.BoolOp .Or (y :: r) pos) (tEt T W (evE C b)) := by
        cases r with
        | nil => exact pw_or1 (okT b g t tk _ h2)
        | cons z r => exact pw_bool (okT b g t tk _ h2)
      exact (tt_or (okT a g t tk _ h1) hb).pt.of fun env => rfl
    · exact off h
  | .not a, X, W, I, g, t, tk, e, h => by
    unfold chkT at h
    split at h
    · exact (tt_not (okT a g t tk _ h)).of fun env => rfl
    · exact off h
  | .gin i a neg, X, W, I, g, t, tk, e, h => by
    unfold chkT at h
    split at h
    · obtain ⟨h1, h2, h3, h4, h5⟩ := b5 h
      have e1 := eq_of_beq h1
      have e2 := eq_of_beq h2
      subst e1
      subst e2
      obtain ⟨hg, hd⟩ := gl_ok t h3
      exact (gin_test (g.gdg i h4) hg hd (okE a g t tk _ h5)).of fun env => rfl
    · exact off h
  | .idx a b, X, W, I, g, t, tk, e, h => by
    unfold chkT at h
    split at h
    · obtain ⟨h1, h2, h3⟩ := b3 h
      exact (pt_plain g.hT (ok_idxX g.hT g.room g.gd tk g.item (okE a g t tk _ h2) (okE b g t tk _ h3) (noSlice_ok h1)) (plainT_ok rfl)).of fun env => rfl
    · exact off h
  | .att a f, X, W, I, g, t, tk, e, h => by
    unfold chkT at h
    split at h
    · obtain ⟨h1, h2, h3⟩ := b3 h
      have e1 := eq_of_beq h1
      subst e1
      exact (pt_plain g.hT (ok_att g.flds (g.att f) g.room g.gd (noSup_ok h2) (okE a g t tk _ h3)) (plainT_ok rfl)).of fun env => rfl
    · exact off h
  | .cal f es, X, W, I, g, t, tk, e, h => by
    unfold chkT at h
    split at h
    · rename_i x p args pos
      obtain ⟨h1, h2, h3, h4, h5⟩ := b5 h
      have e1 := eq_of_beq h1
      subst e1
      obtain ⟨hg, hd⟩ := gl_ok t h2
      obtain ⟨a, hm, hk, hF⟩ := g.fn f h3
      cases args with
      | nil =>
        have e2 := nil_args (X := X) h5
        subst e2
        exact (pt_plain g.hT (ok_cal0 hF (hr0 g) g.gd tk hg hm hk hd) (plainT_ok rfl)).of fun env => rfl
      | cons y ys => exact (pt_plain g.hT (ok_cal hF (hr0 g) g.gd tk hg hm hk hd h4 (okL es g t tk _ h5)) (plainT_ok rfl)).of fun env => rfl
    · exact off h
  | .mth o m es, X, W, I, g, t, tk, e, h => by
    unfold chkT at h
    split at h
    · rename_i x y apos args pos
      obtain ⟨h1, h2, h3, h4, h5, h6, h7⟩ := b7 h
      have e1 := eq_of_beq h1
      subst e1
      cases args with
      | nil =>
        have e2 := nil_args (X := X) h7
        subst e2
        exact (pt_plain g.hT (ok_mth0 (fun c hc => g.mth c m hc) (hr0 g) g.gd tk (noSup_ok h2) h4 (okE o g t tk _ h6)) (plainT_ok rfl)).of fun env => rfl
      | cons y ys => exact (pt_plain g.hT (ok_mth (fun c hc => g.mth c m hc) (hr0 g) g.gd tk (noSup_ok h2) h5 (of_decide_eq_true h3) h4 (okE o g t tk _ h6) (okL es g t tk _ h7)) (plainT_ok rfl)).of fun env => rfl
    · exact off h
  | .blt b es, X, W, I, g, t, tk, e, h => by
    unfold chkT at h
    split at h
    · obtain ⟨h1, h2, h3, h4⟩ := b4 h
      have e1 := eq_of_beq h1
      obtain ⟨hg, hd⟩ := gl_ok t h2
      exact (pt_plain g.hT (ok_blt g.hT g.calm g.room g.gd g.len e1 hg (by rw [e1]; exact g.blt b) h3 (okL es g t tk _ h4)) (plainT_ok rfl)).of fun env => rfl
    · exact off h
  | .bmt m o es, X, W, I, g, t, tk, e, h => by
    unfold chkT at h
    split at h
    · obtain ⟨h1, h2, h3, h4, h5, h6, h7⟩ := b7 h
      exact (pt_plain g.hT (ok_bmt g.hT (hu65 g) h2 (eq_of_beq h1) (noSup_ok h3) h5 h4 (okE o g t tk _ h6) (okL es g t tk _ h7)) (plainT_ok rfl)).of fun env => rfl
    · exact off h
  | .isi a ts, X, W, I, g, t, tk, e, h => by
    unfold chkT at h
    split at h
    · obtain ⟨h1, h2, h3, h4, h5⟩ := b5 h
      have e1 := eq_of_beq h1
      subst e1
      obtain ⟨hg, hd⟩ := gl_ok t h2
      split at h5
      · obtain ⟨h5, h6, h7⟩ := b3 h5
        exact (pt_plain g.hT (ok_isiT g.hT g.isg hg g.isi (tys_ok g t h5) (by intro z; rw [z] at h6; exact off h6) (of_decide_eq_true h7) h3 (okE a g t tk _ h4)) (plainT_ok rfl)).of fun env => rfl
      · split at h5
        · obtain ⟨x, p, rfl, hx⟩ := ty_ok g t h5
          exact (pt_plain g.hT (ok_isi1 g.hT g.isg hg g.isi hx h3 (okE a g t tk _ h4)) (plainT_ok rfl)).of fun env => rfl
        · exact off h5
    · exact off h
  | .frz _, X, W, I, g, t, tk, e, h => by unfold chkT at h; exact off h
  | .neg _, X, W, I, g, t, tk, e, h => by unfold chkT at h; exact off h
  | .bin _ _ _, X, W, I, g, t, tk, e, h => by unfold chkT at h; exact off h
  | .ite _ _ _, X, W, I, g, t, tk, e, h => by unfold chkT at h; exact off h
  | .tup _, X, W, I, g, t, tk, e, h => by unfold chkT at h; exact off h
  | .lst _, X, W, I, g, t, tk, e, h => by unfold chkT at h; exact off h
  | .lsc _, X, W, I, g, t, tk, e, h => by unfold chkT at h; exact off h
  | .dcc _ _, X, W, I, g, t, tk, e, h => by unfold chkT at h; exact off h
  | .gix _ _, X, W, I, g, t, tk, e, h => by unfold chkT at h; exact off h
  | .slc _ _ _, X, W, I, g, t, tk, e, h => by unfold chkT at h; exact off h
  | .rev _, X, W, I, g, t, tk, e, h => by unfold chkT at h; exact off h
  | .mak _ _, X, W, I, g, t, tk, e, h => by unfold chkT at h; exact off h
  | .mkc _ _, X, W, I, g, t, tk, e, h => by unfold chkT at h; exact off h
  | .clm _ _ _, X, W, I, g, t, tk, e, h => by unfold chkT at h; exact off h
  | .mkv _ _ _, X, W, I, g, t, tk, e, h => by unfold chkT at h; exact off h
  | .hol, X, W, I, g, t, tk, e, h => ⟨fun pins s σ H Q I ⟨io, h, env, S, r, p⟩ => False.elim p⟩
  | .dnw, X, W, I, g, t, tk, e, h => by unfold chkT at h; exact off h
  | .com _ _ _ _ _, X, W, I, g, t, tk, e, h => by unfold chkT at h; exact off h
  | .fst _, X, W, I, g, t, tk, e, h => by unfold chkT at h; exact off h
theorem okL : ∀ (c : CL) {X : Cx} {W : WX} {I : Inf} (g : Good X T C B k) (t : Told X I) (tk : Takes X W) (es : List Expr), chkL T C B I c es = true → PA X es (tA T W (evL C c))
  | .nil, X, W, I, g, t, tk, es, h => by
    unfold chkL at h
    have e : es = [] := List.isEmpty_iff.mp h
    subst e
    exact ok_lnil.of fun env => rfl
  | .one a r, X, W, I, g, t, tk, es, h => by
    unfold chkL at h
    split at h
    · obtain ⟨h1, h2, h3⟩ := b3 h
      exact (ok_lone (one_star h1 _) (okE a g t tk _ h2) (okL r g t tk _ h3)).of fun env => rfl
    · exact off h
  | .sta a r, X, W, I, g, t, tk, es, h => by
    unfold chkL at h
    split at h
    · obtain ⟨h1, h2⟩ := b2 h
      exact (ok_lsta g.hT (okE a g t tk _ h1) (okL r g t tk _ h2)).of fun env => rfl
    · exact off h
theorem okF : ∀ (c : CL) {X : Cx} {W : WX} {I : Inf} (g : Good X T C B k) (t : Told X I) (tk : Takes X W) (es : List Expr), chkF T C B I c es = true → PJ X es (fstT T W C c) ∧ c.plain = true
  | .nil, X, W, I, g, t, tk, es, h => by
    unfold chkF at h
    have e : es = [] := List.isEmpty_iff.mp h
    subst e
    exact ⟨.nil, rfl⟩
  | .one a r, X, W, I, g, t, tk, es, h => by
    unfold chkF at h
    split at h
    · obtain ⟨h1, h2, h3⟩ := b3 h
      have e := of_decide_eq_true h1
      subst e
      obtain ⟨i1, i2⟩ := okF r g t tk _ h3
      exact ⟨.cons (ok_fmt (okE a g t tk _ h2)) i1, i2⟩
    · obtain ⟨h1, h2⟩ := b2 h
      split at h1
      · have e := eq_of_beq h1
        subst e
        obtain ⟨i1, i2⟩ := okF r g t tk _ h2
        exact ⟨.cons ok_fcon i1, i2⟩
      · exact off h1
    · exact off h
  | .sta a r, X, W, I, g, t, tk, es, h => by unfold chkF at h; exact off h
theorem okD : ∀ (c : CL) {X : Cx} {W : WX} {I : Inf} (g : Good X T C B k) (t : Told X I) (tk : Takes X W) (ks : List Key) (keys : List (Option Expr)) (vals : List Expr) (pos : Pos), chkD T C B I c ks keys vals = true →
    PPs X pos keys vals (dccT T W C ks c) ∧ keys.all (·.isSome) = true ∧ keys.length = vals.length ∧ keys.length = ks.length ∧ c.plain = true
  | .nil, X, W, I, g, t, tk, ks, keys, vals, pos, h => by
    unfold chkD at h
    obtain ⟨h1, h2, h3⟩ := b3 h
    have e1 : ks = [] := List.isEmpty_iff.mp h1
    have e2 : keys = [] := List.isEmpty_iff.mp h2
    have e3 : vals = [] := List.isEmpty_iff.mp h3
    subst e1 e2 e3
    exact ⟨pps_nil, rfl, rfl, rfl, rfl⟩
  | .one a r, X, W, I, g, t, tk, ks, keys, vals, pos, h => by
    unfold chkD at h
    split at h
    · obtain ⟨h1, h2, h3⟩ := b3 h
      obtain ⟨i1, i2, i3, i4, i5⟩ := okD r g t tk _ _ _ pos h3
      exact ⟨pps_cons (key_ok h1) (okE a g t tk _ h2) i1, i2, congrArg Nat.succ i3, congrArg Nat.succ i4, i5⟩
    · exact off h
  | .sta a r, X, W, I, g, t, tk, ks, keys, vals, pos, h => by unfold chkD at h; exact off h
theorem okO : ∀ (c : CO) {X : Cx} {W : WX} {I : Inf} (g : Good X T C B k) (t : Told X I) (tk : Takes X W) (e : Option Expr), chkO T C B I c e = true → PO X e (tO T W (evO C c))
  | .no, X, W, I, g, t, tk, e, h => by
    unfold chkO at h
    have e' : e = none := Option.isNone_iff_eq_none.mp h
    subst e'
    exact ok_ono
  | .so a, X, W, I, g, t, tk, e, h => by
    unfold chkO at h
    split at h
    · exact ok_oso (okE a g t tk _ h)
    · exact off h
theorem okO' : ∀ (c : CO) {X : Cx} {W : WX} {I : Inf} (g : Good X T C B k) (t : Told X I) (tk : Takes X W) (e : List Expr), chkO' T C B I c e = true → PTs X e (tT T W (evT C c))
  | .no, X, W, I, g, t, tk, e, h => by
    unfold chkO' at h
    have e' : e = [] := List.isEmpty_iff.mp h
    subst e'
    exact ⟨fun pins s σ H Q I q => pts_nil.run pins s σ H Q I (by
      obtain ⟨io, h, env, S, r, p⟩ := q
      exact Post.here (show Post T io h H σ W RB Q (ret true h) from p) S rfl)⟩
  | .so a, X, W, I, g, t, tk, e, h => by
    unfold chkO' at h
    split at h
    · exact pts_one (okT a g t tk _ h)
    · exact off h
theorem okI : ∀ (c : CI) {X : Cx} {W : WX} {I : Inf} (g : Good X T C B k) (t : Told X I) (tk : Takes X W) (tg e : Expr), chkI T C B I c tg e = true → PI X tg e (iM T W (evI C c))
  | .seq a, X, W, I, g, t, tk, tg, e, h => by
    unfold chkI at h
    exact oi_seq g.hT (okE a g t tk _ h)
  | .rng a, X, W, I, g, t, tk, tg, e, h => by
    unfold chkI at h
    split at h
    · obtain ⟨h1, h2, h3, h4⟩ := b4 h
      have e := eq_of_beq h1
      subst e
      exact oi_rng (gl_ok t h2).1 g.rng h3 (okE a g t tk _ h4)
    · exact off h
  | .rng2 a b, X, W, I, g, t, tk, tg, e, h => by
    unfold chkI at h
    split at h
    · obtain ⟨h1, h2, h3, h4, h5⟩ := b5 h
      have e := eq_of_beq h1
      subst e
      exact oi_rng2 (gl_ok t h2).1 g.rng h3 (okE a g t tk _ h4) (okE b g t tk _ h5)
    · exact off h
  | .rng3 a b c, X, W, I, g, t, tk, tg, e, h => by
    unfold chkI at h
    split at h
    · obtain ⟨h1, h2, h3, h4, h5, h6⟩ := b6 h
      have e0 := of_decide_eq_true h1
      subst e0
      have e := eq_of_beq h2
      subst e
      refine oi_rng3 (gl_ok t h3).1 g.rng (plain3 h4) (okE a g t tk _ h5) (okE b g t tk _ h6) ?_
      exact (pe_un un_neg pe_int).imp fun σ H Q q => ⟨1, rfl, q⟩
    · exact off h
  | .enu a, X, W, I, g, t, tk, tg, e, h => by
    unfold chkI at h
    split at h
    · obtain ⟨h1, h2, h3, h4⟩ := b4 h
      have e := eq_of_beq h1
      subst e
      exact oi_enu (gl_ok t h2).1 g.enu h3 (okE a g t tk _ h4)
    · exact off h
  | .zip a b, X, W, I, g, t, tk, tg, e, h => by
    unfold chkI at h
    split at h
    · obtain ⟨h1, h2, h3, h4, h5⟩ := b5 h
      have e := eq_of_beq h1
      subst e
      exact oi_zip g.hT (gl_ok t h2).1 g.zip h3 (okE a g t tk _ h4) (okE b g t tk _ h5)
    · exact off h
theorem okG : ∀ (c : CT) {X : Cx} {I : Inf} (g : Good X T C B k) (t : Told X I) (e : Expr), chkG T C B I c e = true → PG X e (gM T c.ix (asT C c))
  | .nam i, X, I, g, t, e, h => by
    unfold chkG at h
    split at h
    · obtain ⟨h1, h2, h3⟩ := nmS_ok t h
      exact og_name (pg_name t.nd h1 h2 h3)
    · exact off h
  | .tup ts, X, I, g, t, e, h => by
    unfold chkG at h
    split at h
    · obtain ⟨n1, n2⟩ := assignN (env := X.env) h
      exact og_tup g.hT g.calm (okGs ts g t _ h) n1 n2
    · exact off h
  | .sub a i, X, I, g, t, e, h => by
    unfold chkG at h
    split at h
    · obtain ⟨h1, h2, h3⟩ := b3 h
      exact og_sub (hu1 g) (okE a g t takesN _ h2) (okE i g t takesN _ h3) h1
    · exact off h
  | .att a f, X, I, g, t, e, h => by
    unfold chkG at h
    split at h
    · obtain ⟨h1, h2⟩ := b2 h
      have e1 := eq_of_beq h1
      subst e1
      exact og_att g.flds (g.att f) g.fz (okE a g t takesN _ h2)
    · exact off h
  | .hdt i j, X, I, g, t, e, h => by
    unfold chkG at h
    split at h
    · obtain ⟨h1, h2⟩ := b2 h
      obtain ⟨a1, a2, a3⟩ := nmS_ok t h1
      obtain ⟨c1, c2, c3⟩ := nmS_ok t h2
      exact og_hdt g.calm t.nd a1 c1 a2 c2 a3 c3
    · exact off h
theorem okGs : ∀ (c : CTL) {X : Cx} {I : Inf} (g : Good X T C B k) (t : Told X I) (es : List Expr), chkGs T C B I c es = true → PGs X es (gMs T c.ix (asTs C c))
  | .nil, X, I, g, t, es, h => by
    unfold chkGs at h
    have e : es = [] := List.isEmpty_iff.mp h
    subst e
    exact ogs_nil
  | .cons c r, X, I, g, t, es, h => by
    unfold chkGs at h
    split at h
    · rename_i e es
      obtain ⟨h1, h2, h3⟩ := b3 h
      exact ogs_cons (okG c g t _ h2) (okGs r g t _ h3) (by cases e <;> first | rfl | exact off h1)
    · exact off h
end
end
end SX
end
section
set_option Elab.async false
set_option linter.all false
set_option maxRecDepth 100000
set_option maxHeartbeats 8000000
/-! SX25: statements: the check, the induction. -/
namespace SX
open PySem PySem.Spec PyProof.Rows L2
def noComp : Expr → Bool
  | .ListComp _ _ _ _ => false
  | .SetComp _ _ _ _ => false
  | .DictComp _ _ _ _ _ => false
  | _ => true
def isName : Expr → Bool
  | .Name _ _ => true
  | _ => false
def isStarred : Expr → Bool
  | .Starred _ _ => true
  | _ => false
/-- no exchange of stores -/
def noSwap : Expr → Expr → Bool
  | .Tuple ts _ _, .Tuple _ _ _ => !(ts.length == 2 || ts.length == 3)
  | .List _ _, .Tuple _ _ _ => false
  | _, _ => true
def isLoc (I : Inf) (x : Str) : Bool := I.sc.names.lookup x == some .local
/-- a list comprehension into a name of the same line -/
def compTo (I : Inf) : Expr → Expr → Bool
  | .Name y py, .ListComp _ _ scope pos => isLoc I y && (py.line == pos.line && !(scope.names.any fun (n, k) => n == y && (k == .local || k == .cell)))
  | _, _ => false
/-- the exchange is there: two local names -/
def swap2 (I : Inf) : Expr → Expr → Bool
  | .Tuple [.Name x px, .Name y py] _ _, .Tuple [a, b] _ _ => isLoc I x && (isLoc I y && (px.line == py.line && (!(x == y) && (plainArgs [a, b] && (!([a, b].all (foldedForSure 8)) && !([a, b].all (constantsAlone 8)))))))
  | _, _ => false
mutual
def chkS (T : Tab) (C : Ctx) (B : Gb) (I : Inf) : CS → Stmt → Bool
  | .asg t e, s => match s with
    | .Assign [tg] v _ => chkE T C B I e v && ((!isStarred tg && (noComp v || !isName tg) && noSwap tg v && chkG T C B I t tg) || (match t, tg with
      | .nam i, .Name y py => compTo I (.Name y py) v && nmS I i y && (match e with
        | .com _ _ _ _ _ => true
        | _ => false)
      | .tup (.cons (.nam i) (.cons (.nam j) .nil)), tg => swap2 I tg v && chkG T C B I t tg && !(i == j) && (match e with
        | .tup _ => true
        | _ => false)
      | _, _ => false))
    | _ => false
  | .aug _ _ _, _ => false
  | .exp e, s => match s with
    | .Expr v _ => chkE T C B I e v && noComp v
    | _ => false
  | .ret e, s => match s with
    | .Return (some v) _ => chkE T C B I e v
    | _ => false
  | .retN, s => match s with
    | .Return none _ => true
    | _ => false
  | .ite c a b, s => match s with
    | .If x xs ys _ => chkT T C B I c x && (chkSs T C B I a xs && chkSs T C B I b ys)
    | _ => false
  | .for_ t i b, s => match s with
    | .For tg iter body [] _ => noSet iter && (chkI T C B I i tg iter && (chkG T C B I t tg && chkSs T C B I b body))
    | _ => false
  | .whl c b, s => match s with
    | .While x body [] _ => chkT T C B I c x && chkSs T C B I b body
    | _ => false
  | .brk, s => match s with
    | .Break _ => true
    | _ => false
  | .cnt, s => match s with
    | .Continue _ => true
    | _ => false
  | .pas, s => match s with
    | .Pass _ => true
    | _ => false
  | .bad, _ => true
  | .rai _ _, _ => false
def chkSs (T : Tab) (C : Ctx) (B : Gb) (I : Inf) : CSs → List Stmt → Bool
  | .nil, ss => ss.isEmpty
  | .cons s r, ss => match ss with
    | x :: xs => chkS T C B I s x && chkSs T C B I r xs
    | _ => false
end
section
variable {T : Tab} {C : Ctx} {k : Nat} {B : Gb}
theorem swaps_no {tg v : Expr} {line : Nat} {env : PySem.Env} (h : (noComp v || !isName tg) = true) : swapsWithSole [tg] v line env = pure false := by
  show swapsWith v (some tg) line env = pure false
  cases v <;> first | rfl | (cases tg <;> first | rfl | exact off h)
theorem stores_no {tg v : Expr} {env : PySem.Env} (h : noSwap tg v = true) : swappedStores [tg] v env = pure none := by
  cases tg <;> first | rfl | (cases v <;> first | rfl | exact off h | skip)
  rename_i ts kk p vs k2 p2
  have h' : (ts.length == 2 || ts.length == 3) = false := by
    have h1 : (!(ts.length == 2 || ts.length == 3)) = true := h
    simpa using h1
  unfold swappedStores
  simp only [h', Bool.not_false, Bool.true_or, if_true]
theorem each_one {tg : Expr} {env : PySem.Env} (h : (!isStarred tg) = true) : (assignEach [tg] env).map (·.2) = [assign tg env] := by
  cases tg <;> first | rfl | exact off h
theorem _root_.L2.PS.of {X : Cx} {W : WX} {e : Stmt} {m m' : Env → SM} (h : PS X e (tSt T W m')) (q : ∀ env, m env = m' env) : PS X e (tSt T W m) := by
  have e : m = m' := funext q
  rw [e]; exact h
theorem stores_two {X : Cx} {I : Inf} {x y : Str} {px py pt : Pos} {a b : Expr} {kt k2 : Nat} {pt2 : Pos} (t : Told X I) (hk : X.env.scope.kind = .function) (h1 : isLoc I x = true) (h2 : isLoc I y = true) (h3 : (px.line == py.line) = true) (h4 : (!(x == y)) = true) (h5 : plainArgs [a, b] = true)
    (h6 : (!([a, b].all (foldedForSure 8))) = true) (h7 : (!([a, b].all (constantsAlone 8))) = true) :
    swappedStores [.Tuple [.Name x px, .Name y py] kt pt] (.Tuple [a, b] k2 pt2) X.env = pure (some [x, y]) := by
  have kx : X.env.kindOf x = some .local := by
    show X.env.scope.names.lookup x = _
    rw [t.sc]; exact eq_of_beq h1
  have ky : X.env.kindOf y = some .local := by
    show X.env.scope.names.lookup y = _
    rw [t.sc]; exact eq_of_beq h2
  have hb : X.env.blockKind = .function := by unfold Env.blockKind; rw [hk]; rfl
  have hs : ([a, b].any fun | .Starred .. => true | _ => false) = false := by
    cases a <;> first | exact off h5 | (cases b <;> first | exact off h5 | rfl)
  have hl : py.line = px.line := (eq_of_beq h3).symm
  have hne : (x == y) = false := by simpa using h4
  have hne2 : (y == x) = false := by
    cases q : (y == x) with
    | false => rfl
    | true => rw [eq_of_beq q, beq_self_eq_true] at hne; cases hne
  have h6' : ([a, b].all (foldedForSure 8)) = false := notB h6
  have h7' : ([a, b].all (constantsAlone 8)) = false := notB h7
  unfold swappedStores
  simp only [hb, hs, h6', h7', kx, ky, hl, Expr.pos, List.length_cons, List.length_nil, List.head?_cons, Option.map_some, Option.getD_some, List.filterMap_cons, List.filterMap_nil]
  have hed : ([x, y].eraseDups.length) = 2 := by
    simp [List.eraseDups, List.eraseDupsBy, List.eraseDupsBy.loop, hne, hne2]
  simp [hed]
  intro hx
  rcases hx with hx | hx
  · cases a <;> first | exact off h5 | exact off hx
  · cases b <;> first | exact off hx | (cases a <;> exact off h5)
theorem okS_asg {X : Cx} {W : WX} {I : Inf} (g : Good X T C B k) (t : Told X I) (tk : Takes X W) (ct : CT) (e : CE) (tg v : Expr) (pos : Pos) (h1 : chkE T C B I e v = true) (h2 : (!isStarred tg && (noComp v || !isName tg) && noSwap tg v && chkG T C B I ct tg) = true) : PS X (.Assign [tg] v pos) (tSt T W (evS C (.asg ct e))) := by
  obtain ⟨h3, h6⟩ := b2 h2
  obtain ⟨h4, h5⟩ := b2 h3
  obtain ⟨h7, h8⟩ := b2 h4
  exact ((ps_asg (okE e g t tk v h1) (okG ct g t tg h6) (swaps_no h8) (stores_no h5) (each_one h7)).imp fun D σ H q => asg_read q).of fun env => rfl
mutual
theorem okS : ∀ (c : CS) {X : Cx} {W : WX} {I : Inf} (g : Good X T C B k) (t : Told X I) (tk : Takes X W) (hp : PassesOwn (model X.prog X.w) X.A X.env X.xe) (hk : X.env.scope.kind = .function) (s : Stmt), chkS T C B I c s = true → PS X s (tSt T W (evS C c))
  | .asg ct e, X, W, I, g, t, tk, hp, hk, s, h => by
    unfold chkS at h
    split at h
    · rename_i tg v pos
      obtain ⟨h1, h2⟩ := b2 h
      rcases Bool.or_eq_true_iff.mp h2 with h3 | h3
      · exact okS_asg g t tk ct e tg v pos h1 h3
      · split at h3
        · rename_i i y py
          obtain ⟨h4, h5⟩ := b2 h3
          obtain ⟨h6, h7⟩ := b2 h4
          split at h5
          · rename_i own ct' ci cc ca
            have hE := h1
            unfold chkE at h1
            split at h1
            · rename_i x tg' iter ifs scope pos'
              obtain ⟨a1, a2, a3, a4, a5, a6, a7⟩ := b7 h1
              obtain ⟨c1, c2, c3⟩ := b3 (show (isLoc I y && (py.line == pos'.line && !(scope.names.any fun (n, k) => n == y && (k == .local || k == .cell)))) = true from h6)
              have hkk : BlkOk X.N X.env.scope scope (own.map fun j => (I.N.getD j Str.empty, j)) := by
                rw [t.N, t.sc]
                exact blkOk_by a1
              have ey : X.env.scope.names.lookup y = some .local := by rw [t.sc]; exact eq_of_beq c1
              have q := ok_setLc (i := i) (y := y) (py := py) (pos := pos') (spos := pos) (T := T) (W := W) g.calm t.nd (nmS_ok t h7).1 ey (sw_true hk ey c2 (by simpa using c3)) (okI ci g t tk tg' iter a4) hkk (ix := ct'.ix) (fun j hj => by
                rw [ownIds]
                exact List.elem_iff.mp (List.all_eq_true.mp a3 j hj)) (fun s H c cl fp => okG ct' (g.blk) (t.blk) tg' a5) (fun s H c cl fp => okO' cc (g.blk) (t.blk) takesN ifs a6) (fun s H c cl fp => okE ca (g.blk) (t.blk) takesN x a7) (noSet_ok a2)
              rw [ownIds] at q
              exact (q.imp fun D σ H z => asgN_read z).of fun env => rfl
            · exact off h1
          · exact off h5
        · rename_i i j
          obtain ⟨h4, h5⟩ := b2 h3
          obtain ⟨h6, h7⟩ := b2 h4
          obtain ⟨h8, h9⟩ := b2 h6
          split at h5
          · rename_i es
            unfold swap2 at h8
            split at h8
            · rename_i x px y py kt pt a b k2 pt2
              obtain ⟨c1, c2, c3, c4, c5, c6, c7⟩ := b7 h8
              have h1' : chkL T C B I es [a, b] = true := h1
              have h9' : (plainArgs [Expr.Name x px] && (nmS I i x && (plainArgs [Expr.Name y py] && (nmS I j y && true)))) = true := h9
              obtain ⟨_, d2, _, d4, _⟩ := b5 h9'
              have ex : X.env.scope.names.lookup x = some .local := by rw [t.sc]; exact eq_of_beq c1
              have ey : X.env.scope.names.lookup y = some .local := by rw [t.sc]; exact eq_of_beq c2
              have hij : i ≠ j := by
                intro z
                rw [z] at h7
                simp at h7
              exact ((ps_par (pos := pos) g.calm t.nd (nmS_ok t d2).1 (nmS_ok t d4).1 hij ex ey (okL es g t tk _ h1') (stores_two t hk c1 c2 c3 c4 c5 c6 c7)).imp fun D σ H q => parN_read q).of fun env => rfl
            · exact off h8
          · exact off h5
        · exact off h3
    · exact off h
  | .aug _ _ _, X, W, I, g, t, tk, hp, hk, s, h => by unfold chkS at h; exact off h
  | .exp e, X, W, I, g, t, tk, hp, hk, s, h => by
    unfold chkS at h
    split at h
    · rename_i v pos
      obtain ⟨h1, h2⟩ := b2 h
      exact ((ps_expr (okE e g t tk _ h1) (by cases v <;> first | rfl | exact off h2)).imp fun D σ H q => drop_read q).of fun env => rfl
    · exact off h
  | .ret e, X, W, I, g, t, tk, hp, hk, s, h => by
    unfold chkS at h
    split at h
    · exact ((ps_ret (okE e g t tk _ h)).imp fun D σ H q => ret_read q).of fun env => rfl
    · exact off h
  | .retN, X, W, I, g, t, tk, hp, hk, s, h => by
    unfold chkS at h
    split at h
    · exact (ps_retN.imp fun D σ H q => retN_read q).of fun env => rfl
    · exact off h
  | .ite c a b, X, W, I, g, t, tk, hp, hk, s, h => by
    unfold chkS at h
    split at h
    · obtain ⟨h1, h2, h3⟩ := b3 h
      exact ((ps_if (okT c g t tk _ h1) (okSs a g t tk hp hk _ h2) (okSs b g t tk hp hk _ h3)).imp fun D σ H q => if_read q).of fun env => rfl
    · exact off h
  | .for_ ct i b, X, W, I, g, t, tk, hp, hk, s, h => by
    unfold chkS at h
    split at h
    · obtain ⟨h1, h2, h3, h4⟩ := b4 h
      exact ((ps_for hp g.calm (okI i g t tk _ _ h2) (okG ct g t _ h3) (okSs b g t tk hp hk _ h4) (noSet_ok h1)).imp fun D σ H q => for_read q).of fun env => rfl
    · exact off h
  | .whl c b, X, W, I, g, t, tk, hp, hk, s, h => by
    unfold chkS at h
    split at h
    · obtain ⟨h1, h2⟩ := b2 h
      exact ((ps_while hp (okT c g t tk _ h1) (okSs b g t tk hp hk _ h2)).imp fun D σ H q => whl_read q).of fun env => rfl
    · exact off h
  | .brk, X, W, I, g, t, tk, hp, hk, s, h => by
    unfold chkS at h
    split at h
    · exact (ps_break.imp fun D σ H q => brk_read q).of fun env => rfl
    · exact off h
  | .cnt, X, W, I, g, t, tk, hp, hk, s, h => by
    unfold chkS at h
    split at h
    · exact (ps_continue.imp fun D σ H q => cnt_read q).of fun env => rfl
    · exact off h
  | .pas, X, W, I, g, t, tk, hp, hk, s, h => by
    unfold chkS at h
    split at h
    · exact (ps_pass.imp fun D σ H q => nx_read q).of fun env => rfl
    · exact off h
  | .bad, X, W, I, g, t, tk, hp, hk, s, h => (ps_never.imp fun D σ H q => bad_read q).of fun env => rfl
  | .rai _ _, X, W, I, g, t, tk, hp, hk, s, h => by unfold chkS at h; exact off h
theorem okSs : ∀ (c : CSs) {X : Cx} {W : WX} {I : Inf} (g : Good X T C B k) (t : Told X I) (tk : Takes X W) (hp : PassesOwn (model X.prog X.w) X.A X.env X.xe) (hk : X.env.scope.kind = .function) (s : List Stmt), chkSs T C B I c s = true → PSs X s (tSt T W (evSs C c))
  | .nil, X, W, I, g, t, tk, hp, hk, s, h => by
    unfold chkSs at h
    have e : s = [] := List.isEmpty_iff.mp h
    subst e
    have e2 : evSs C .nil = fun env => sGo .nx env := funext fun env => rfl
    rw [e2]
    exact pss_nil.imp fun D σ H q => nx_read q
  | .cons c r, X, W, I, g, t, tk, hp, hk, s, h => by
    unfold chkSs at h
    split at h
    · obtain ⟨h1, h2⟩ := b2 h
      have e2 : evSs C (.cons c r) = fun env => sSeq (evS C c env) (evSs C r) := funext fun env => rfl
      rw [e2]
      exact (pss_cons (okS c g t tk hp hk _ h1) (okSs r g t tk hp hk _ h2)).imp fun D σ H q => seq_read q
    · exact off h
end
end
end SX
end
section
set_option Elab.async false
set_option linter.all false
set_option maxRecDepth 100000
set_option maxHeartbeats 4000000
/-! SX26: a def keeps its promise; the chain of what may be called. -/
namespace SX
open PySem PySem.Spec PyProof.Rows L2
theorem start_get {vs : List D} {n i : Nat} {d : D} (e : (SX.start n vs)[i]? = some (some d)) : vs[i]? = some d := by
  unfold SX.start at e
  by_cases hi : i < vs.length
  · rw [List.getElem?_append_left (by simpa using hi), List.getElem?_map] at e
    cases q : vs[i]? with
    | none => rw [q] at e; cases e
    | some x => rw [q] at e; cases e; rfl
  · rw [List.getElem?_append_right (by simpa using hi), List.getElem?_replicate] at e
    split at e <;> cases e
theorem start_env {T : Tab} {io : List Addr} {F : Hp} {ds : List D} {vs : List V} {N : List Str} {n : Nat} (r : Reps T io F ds vs) (hn : n = N.length) (hl : vs.length ≤ N.length) : REnv T io F (SX.start n ds) (L2.start N vs) := by
  have hr := r.length
  refine ⟨?_, fun i d e => ?_⟩
  · unfold SX.start L2.start
    rw [List.length_append, List.length_append, List.length_map, List.length_map, List.length_replicate, List.length_replicate]
    omega
  · have e1 := start_get e
    obtain ⟨v, e2, rv⟩ := r.get e1
    refine ⟨v, ?_, rv⟩
    unfold L2.start
    have hi := (List.getElem?_eq_some_iff.mp e2).1
    rw [List.getElem?_append_left (by simpa using hi), List.getElem?_map, e2]
    rfl
theorem sem_post {T : Tab} {io : List Addr} {h : LH} {H : Hp} {Q : VK} {E : XK} {r : SRes} (p : Post T io h H [] (fun c d _ H' => E c d H') (Rep T) Q (endS r)) : PostS T io h H (fun c d _ H' => E c d H') { nx := fun _ H' => Q .non H', rt := Q } r := by
  cases r with
  | stuck => exact p
  | ex x env h' => exact fun io' H' σ' c d S G _ rx => p io' H' c d S G rx
  | go f env h' =>
    cases f with
    | nx => exact fun io' H' σ' S G _ => p io' H' .non S G non_rep
    | ret d => exact fun io' H' v S G rv => p io' H' v S G rv
    | brk => exact False.elim p
    | cnt => exact False.elim p
section
variable {P : Program} {w : World} {K : PySem.W.Frag} {mg : Str → Option Value} {base : Heap} {T : Tab} {C : Ctx} {B : Gb} {kk : Nat}
/-- what is known of a program's parts, for any body -/
def GoodS (P : Program) (w : World) (K : PySem.W.Frag) (mg : Str → Option Value) (base : Heap) (T : Tab) (C : Ctx) (B : Gb) (kk : Nat) : Prop :=
  ∀ X : Cx, X.prog = P → X.w = w → X.K = K → X.mg = mg → X.base = base → X.calm = true → Room (kk + 1) X.A → Gd T X.A → Good X T C B kk
theorem def_ok {x qual : Str} {params : Arguments} {body : List Stmt} {scope : Scope} {dvs : List V} {kws : List (Str × V)} {f : Addr} {fd : FuncData} {N ps : List Str} (F : FunD K x qual params body scope dvs kws f fd) (hb : Binds K fd ps []) (S : FnScope N ps scope) (d : Def)
    (hnp : d.np = ps.length) (hns : d.ns = N.length) (dbg : ∀ x ∈ N, (x == ("__debug__" : Str)) = false ∧ (x == ("__classdict__" : Str)) = false) (hc : chkSs T C B ⟨N, scope, fun _ => true⟩ d.body body = true) (good : GoodS P w K mg base T C B kk) :
    FnS' P w K mg base T (kk + 2) f ps.length (d.sem C) := by
  intro A outer s H us vs Q E hr hG e0 r hsp
  obtain ⟨oc, od, dV, kV, doc, pm, an, cdv, ct, osl, rfl, lk, hcd, _, _⟩ := F.ex
  obtain ⟨io, h, ds, Sm, rs, hn, p⟩ := hsp
  have hl : vs.length = ps.length := by rw [← rs.length]; exact hn
  have hl2 : (us ++ []).length = ps.length := by rw [List.append_nil, ← r.length]; exact hl
  have KX : K.In s.heap := e0.mod.kin.keeps fun b o e => (e0.bs b o e).1
  have lim : s.heap.NoLimit := e0.mod.nolimit.keeps fun b o e => (e0.bs b o e).1
  have hbb : BindsTo s (PySem.W.fnOf x qual params body scope dV kV doc pm an cdv ct) ⟨us, []⟩ (ps.zip us) := by
    have := hb s us KX hl2
    rwa [List.append_nil] at this
  have hkind : ∀ y ∈ ps.zip us, scope.names.lookup y.1 = some .local ∨ (scope.names.lookup y.1 = some .cell ∧ ((cellsFrom (s.heap.objs.size + 1) scope.names []).lookup y.1).isSome = true) := fun ⟨n, v⟩ hy => by
    rcases S.par n (List.of_mem_zip hy).1 with q | q
    · exact .inl q
    · exact .inr ⟨q, PySem.W.cellsFrom_some _ _ _ (.inl q)⟩
  refine codeAny_call_function hr.depth (KX _ _ lk) rfl S.co S.gen rfl (PySem.W.codeRec_of KX hcd) (hbb _ _ _ _ ?_)
  refine wpAny_newFunctionEnv_cells S.kind hkind fun env he s1 xx => ?_
  subst he
  refine ⟨lim.keeps xx.toInCall.keep, codeAny_func ?_⟩
  have I : Inv (cxOf (L2.CX P w) P w K mg base N qual scope f cdv A outer s H E) [] (L2.start N vs) H s1 := inv_start S hr.hd e0 hl r xx
  have g : Good (cxOf (L2.CX P w) P w K mg base N qual scope f cdv A outer s H E) T C B kk := good _ rfl rfl rfl rfl rfl rfl (hr.deeper _) (hG.deeper _)
  have t : Told (cxOf (L2.CX P w) P w K mg base N qual scope f cdv A outer s H E) ⟨N, scope, fun _ => true⟩ := ⟨rfl, rfl, fun _ _ => rfl, S.nd, dbg⟩
  have tk : Takes (cxOf (L2.CX P w) P w K mg base N qual scope f cdv A outer s H E) (fun cls d _ H => E cls d H) := takes_of rfl rfl rfl rfl
  have ht := okSs d.body g t tk (passes_of rfl) S.kind body hc
  have hpl : ps.length ≤ N.length := by have := congrArg List.length S.pre; rw [List.length_take] at this; omega
  have hq : tSt T (fun cls d _ H => E cls d H) (evSs C d.body) { nx := fun _ H' => Q .non H', rt := Q } (L2.start N vs) H := by
    refine ⟨io, h, SX.start d.ns ds, Sm, start_env rs hns (by omega), sem_post ?_⟩
    unfold Def.sem at p
    rw [if_pos (by rw [hnp]; exact hn)] at p
    exact p
  refine wpAny_mono (ht.run [] s1 (L2.start N vs) H _ I hq) (fun fl s' hs => ?_) fun e s' hs => hs
  have fin : ∀ {σ' : L2.St} {H' : Hp} {v : V} {u : Value}, Inv (cxOf (L2.CX P w) P w K mg base N qual scope f cdv A outer s H E) [] σ' H' s' → RelV v u → Q v H' → L2.CE outer P w H s Q u s' :=
    fun {σ' H' v u} J rv q => ⟨v, H', J.os, J.bare, J.base, J.hok, rv, q⟩
  cases fl with
  | ret u =>
    obtain ⟨v, σ', H', J, rv, q⟩ := hs
    exact fin J rv q
  | next =>
    obtain ⟨σ', H', J, q⟩ := hs
    exact fin (v := V.non) (u := Value.none) J rfl q
  | brk =>
    obtain ⟨_, _, _, q⟩ := hs
    exact False.elim q
  | cont =>
    obtain ⟨_, _, _, q⟩ := hs
    exact False.elim q
theorem FnS'.mono {k k' : Nat} {f : Addr} {n : Nat} {s : Sem} (F : FnS' P w K mg base T k f n s) (h : k ≤ k') : FnS' P w K mg base T k' f n s := fun A outer sh H us vs Q E hr => F A outer sh H us vs Q E (hr.mono h)
end
end SX
end
section
set_option Elab.async false
set_option linter.all false
set_option maxRecDepth 100000
set_option maxHeartbeats 4000000
/-! SX27: the chain of what may be called. -/
namespace SX
open PySem PySem.Spec PyProof.Rows L2
theorem dunders : ∀ m : Nat, m = aEq ∨ m = aLen ∨ m = aItem ∨ m = aAdd ∨ (m ≠ aEq ∧ m ≠ aLen ∧ m ≠ aItem ∧ m ≠ aAdd)
  | 0 => .inl rfl
  | 1 => .inr (.inl rfl)
  | 2 => .inr (.inr (.inl rfl))
  | 3 => .inr (.inr (.inr (.inl rfl)))
  | m + 4 => .inr (.inr (.inr (.inr ⟨by unfold aEq; omega, by unfold aLen; omega, by unfold aItem; omega, by unfold aAdd; omega⟩)))
section
variable {X : Cx} {T : Tab} {C C' : Ctx} {B : Gb} {k k' : Nat}
theorem FnS.up {f : Addr} {n : Nat} {s : Sem} (F : FnS X T k f n s) (h : k ≤ k') : FnS X T k' f n s := FnS'.mono F h
/-- what changes when more may be called -/
structure Ext1 (X : Cx) (T : Tab) (C C' : Ctx) (B : Gb) (k' : Nat) : Prop where
  flds : C'.flds = C.flds
  cls : C'.cls = C.cls
  gds : C'.gds = C.gds
  gvs : C'.gvs = C.gvs
  fn : ∀ f, C'.hasF f = true → (C.hasF f = true ∧ ∀ n, C'.fn f n = C.fn f n) ∨ ∃ a, X.mg (B.fnm f) = some (.ref a) ∧ PySem.W.keepIn X.K (.ref a) = true ∧ ∀ n s, C'.fn f n = some s → FnS X T k' a n s
  ini : ∀ c, C'.hasI c = true → (C.hasI c = true ∧ ∀ n, C'.ini c n = C.ini c n) ∨ (X.mg (B.cnm c) = some (.ref (T.cad c)) ∧ ∃ f, Mk X.K (T.cad c) f ∧ ∀ n s, C'.ini c n = some s → FnS X T k' f (n + 1) s)
  mt : ∀ c m, (C'.hasM c m = C.hasM c m ∧ ∀ n, C'.mt c m n = C.mt c m n) ∨ (MtG X T C' k' c m ∧ (m = aEq → DnG X T C' k' c "__eq__" aEq 1 ∧ NeG X T c) ∧ (m = aAdd → DnG X T C' k' c "__add__" aAdd 1 ∧ NeG X T c) ∧ (m = aLen → DnG X T C' k' c "__len__" aLen 0) ∧ (m = aItem → DnG X T C' k' c "__getitem__" aItem 1))
  pr : ∀ c f s, C'.pr c f = some s → C.pr c f = some s ∨ ∃ p g, Cls X.K (T.cad c) ∧ PropOf X.K (T.cad c) (T.atn f) p g ∧ FnS X T k' g 1 s
theorem Good.ext (g : Good X T C B k) (x : Ext1 X T C C' B k') (h : k ≤ k') (hr : Room (k' + 1) X.A) : Good X T C' B k' where
  hT := g.hT
  flds := x.flds.trans g.flds
  calm := g.calm
  room := hr
  gd := g.gd
  fz := g.fz
  fn := fun f hf => by
    rcases x.fn f hf with ⟨h1, h2⟩ | q
    · obtain ⟨a, q1, q2, q3⟩ := g.fn f h1
      exact ⟨a, q1, q2, fun n s e => (q3 n s (by rw [← h2]; exact e)).up h⟩
    · exact q
  ini := fun c hc => by
    rcases x.ini c hc with ⟨h1, h2⟩ | q
    · obtain ⟨q1, f, q2, q3⟩ := g.ini c h1
      exact ⟨q1, f, q2, fun n s e => (q3 n s (by rw [← h2]; exact e)).up h⟩
    · exact q
  mth := fun c m hm => by
    rcases x.mt c m with ⟨h1, h2⟩ | q
    · obtain ⟨q1, q2, a, q3, q4⟩ := g.mth c m (by rw [← h1]; exact hm)
      exact ⟨q1, q2, a, q3, fun n s e => (q4 n s (by rw [← h2]; exact e)).up h⟩
    · exact q.1
  att := fun f => ⟨(g.att f).fld, fun c s e => by
    rcases x.pr c f s e with q | q
    · obtain ⟨p, a, q1, q2, q3⟩ := (g.att f).pr c s q
      exact ⟨p, a, q1, q2, q3.up h⟩
    · exact q⟩
  eq := fun c s e => by
    rcases x.mt c aEq with ⟨h1, h2⟩ | q
    · obtain ⟨⟨f, q1, q2, q3, q4⟩, ne⟩ := g.eq c s (by rw [← h2]; exact e)
      exact ⟨⟨f, q1, q2, q3, fun s e => (q4 s (by rw [← h2]; exact e)).up h⟩, ne⟩
    · exact q.2.1 rfl
  add := fun c s e => by
    rcases x.mt c aAdd with ⟨h1, h2⟩ | q
    · obtain ⟨⟨f, q1, q2, q3, q4⟩, ne⟩ := g.add c s (by rw [← h2]; exact e)
      exact ⟨⟨f, q1, q2, q3, fun s e => (q4 s (by rw [← h2]; exact e)).up h⟩, ne⟩
    · exact q.2.2.1 rfl
  len := fun c s e => by
    rcases x.mt c aLen with ⟨h1, h2⟩ | q
    · obtain ⟨f, q1, q2, q3, q4⟩ := g.len c s (by rw [← h2]; exact e)
      exact ⟨f, q1, q2, q3, fun s e => (q4 s (by rw [← h2]; exact e)).up h⟩
    · exact q.2.2.2.1 rfl
  item := fun c s e => by
    rcases x.mt c aItem with ⟨h1, h2⟩ | q
    · obtain ⟨f, q1, q2, q3, q4⟩ := g.item c s (by rw [← h2]; exact e)
      exact ⟨f, q1, q2, q3, fun s e => (q4 s (by rw [← h2]; exact e)).up h⟩
    · exact q.2.2.2.2 rfl
  isg := ⟨fun c hc => g.isg.own c (by rw [← x.cls]; exact hc), fun t u h1 h2 => g.isg.kit t u (by
    cases t <;> first | rfl | (show C.cls.contains _ = true; rw [← x.cls]; exact h1)) (by
    cases u <;> first | rfl | (show C.cls.contains _ = true; rw [← x.cls]; exact h2))⟩
  cls := fun c hc => g.cls c (by rw [← x.cls]; exact hc)
  gdg := fun i hi => ⟨by
    obtain ⟨d, es, n, q1, q2, q3⟩ := (g.gdg i (by unfold Ctx.hasD at hi ⊢; rw [← x.gds]; exact hi)).ok
    exact ⟨d, es, n, q1, q2, fun kvs e => q3 kvs (by unfold Ctx.gd at e ⊢; rw [← x.gds]; exact e)⟩⟩
  gvs := fun i hi => by
    obtain ⟨u, v, q1, q2, q3⟩ := g.gvs i (by unfold Ctx.hasG at hi ⊢; rw [← x.gvs]; exact hi)
    exact ⟨u, v, q1, q2, fun d io F e => q3 d io F (by rw [← x.gvs]; exact e)⟩
  blt := g.blt
  isi := g.isi
  rng := g.rng
  enu := g.enu
  zip := g.zip
end
section
variable {P : Program} {w : World} {K : PySem.W.Frag} {mg : Str → Option Value} {base : Heap} {T : Tab} {C : Ctx} {B : Gb} {kk : Nat}
/-- one more def -/
def Ctx.addF (C : Ctx) (f n : Nat) (s : Sem) : Ctx := { C with fns := (f, n, s) :: C.fns }
def Ctx.addI (C : Ctx) (c n : Nat) (s : Sem) : Ctx := { C with inis := (c, n, s) :: C.inis }
def Ctx.addM (C : Ctx) (c m n : Nat) (s : Sem) : Ctx := { C with mts := (c, m, n, s) :: C.mts }
def Ctx.addP (C : Ctx) (c f : Nat) (s : Sem) : Ctx := { C with prs := (c, f, s) :: C.prs }
theorem fn_addF {C : Ctx} {f n g m : Nat} {s : Sem} : (C.addF f n s).fn g m = if f = g ∧ n = m then some s else C.fn g m := by
  unfold Ctx.addF Ctx.fn
  simp only [List.find?_cons]
  by_cases h : f = g ∧ n = m
  · rw [if_pos h, h.1, h.2]; simp
  · rw [if_neg h]
    have : (f == g && n == m) = false := by
      rw [Bool.and_eq_false_iff]
      by_cases h1 : f = g
      · exact .inr (beq_eq_false_iff_ne.mpr fun h2 => h ⟨h1, h2⟩)
      · exact .inl (beq_eq_false_iff_ne.mpr h1)
    simp [this]
theorem ini_addI {C : Ctx} {f n g m : Nat} {s : Sem} : (C.addI f n s).ini g m = if f = g ∧ n = m then some s else C.ini g m := by
  unfold Ctx.addI Ctx.ini
  simp only [List.find?_cons]
  by_cases h : f = g ∧ n = m
  · rw [if_pos h, h.1, h.2]; simp
  · rw [if_neg h]
    have : (f == g && n == m) = false := by
      rw [Bool.and_eq_false_iff]
      by_cases h1 : f = g
      · exact .inr (beq_eq_false_iff_ne.mpr fun h2 => h ⟨h1, h2⟩)
      · exact .inl (beq_eq_false_iff_ne.mpr h1)
    simp [this]
theorem pr_addP {C : Ctx} {f n g m : Nat} {s : Sem} : (C.addP f n s).pr g m = if f = g ∧ n = m then some s else C.pr g m := by
  unfold Ctx.addP Ctx.pr
  simp only [List.find?_cons]
  by_cases h : f = g ∧ n = m
  · rw [if_pos h, h.1, h.2]; simp
  · rw [if_neg h]
    have : (f == g && n == m) = false := by
      rw [Bool.and_eq_false_iff]
      by_cases h1 : f = g
      · exact .inr (beq_eq_false_iff_ne.mpr fun h2 => h ⟨h1, h2⟩)
      · exact .inl (beq_eq_false_iff_ne.mpr h1)
    simp [this]
theorem mt_addM {C : Ctx} {c m n d p q : Nat} {s : Sem} : (C.addM c m n s).mt d p q = if c = d ∧ m = p ∧ n = q then some s else C.mt d p q := by
  unfold Ctx.addM Ctx.mt
  simp only [List.find?_cons]
  by_cases h : c = d ∧ m = p ∧ n = q
  · rw [if_pos h, h.1, h.2.1, h.2.2]; simp
  · rw [if_neg h]
    have : (c == d && (m == p && n == q)) = false := by
      cases e : (c == d && (m == p && n == q)) with
      | false => rfl
      | true =>
        simp only [Bool.and_eq_true, beq_iff_eq] at e
        exact absurd ⟨e.1, e.2.1, e.2.2⟩ h
    simp [this]
theorem no_fn {C : Ctx} {f : Nat} (h : C.hasF f = false) (n : Nat) : C.fn f n = none := by
  unfold Ctx.fn
  unfold Ctx.hasF at h
  rw [List.any_eq_false] at h
  have : C.fns.find? (fun p => p.1 == f && p.2.1 == n) = none := List.find?_eq_none.mpr fun p hp z => h p hp (by
    simp only [Bool.and_eq_true] at z
    exact z.1)
  rw [this]; rfl
theorem no_ini {C : Ctx} {f : Nat} (h : C.hasI f = false) (n : Nat) : C.ini f n = none := by
  unfold Ctx.ini
  unfold Ctx.hasI at h
  rw [List.any_eq_false] at h
  have : C.inis.find? (fun p => p.1 == f && p.2.1 == n) = none := List.find?_eq_none.mpr fun p hp z => h p hp (by
    simp only [Bool.and_eq_true] at z
    exact z.1)
  rw [this]; rfl
theorem no_mt {C : Ctx} {c m : Nat} (h : C.hasM c m = false) (n : Nat) : C.mt c m n = none := by
  unfold Ctx.mt
  unfold Ctx.hasM at h
  rw [List.any_eq_false] at h
  have : C.mts.find? (fun p => p.1 == c && (p.2.1 == m && p.2.2.1 == n)) = none := List.find?_eq_none.mpr fun p hp z => h p hp (by
    simp only [Bool.and_eq_true] at z ⊢
    exact ⟨z.1, z.2.1⟩)
  rw [this]; rfl
theorem GoodS.addF (g : GoodS P w K mg base T C B kk) {f n : Nat} {s : Sem} {a : Addr} (hm : mg (B.fnm f) = some (.ref a)) (hk : PySem.W.keepIn K (.ref a) = true) (F : FnS' P w K mg base T (kk + 2) a n s) (hu : C.hasF f = false) : GoodS P w K mg base T (C.addF f n s) B (kk + 2) := by
  intro X hp hw hK hmg hb hc hr hG
  subst hp hw hK hmg hb
  refine (g X rfl rfl rfl rfl rfl hc (hr.mono (by omega)) hG).ext ⟨rfl, rfl, rfl, rfl, fun h hh => ?_, fun c h => .inl ⟨h, fun _ => rfl⟩, fun c m => .inl ⟨rfl, fun _ => rfl⟩, fun c f s e => .inl e⟩ (by omega) hr
  by_cases e : f = h
  · subst e
    refine .inr ⟨a, hm, hk, fun n' s' e' => ?_⟩
    rw [fn_addF] at e'
    split at e'
    · rename_i q
      cases e'
      rw [← q.2]
      exact F
    · rw [no_fn hu] at e'; cases e'
  · refine .inl ⟨?_, fun n' => by rw [fn_addF, if_neg (fun q => e q.1)]⟩
    have hh' : (f == h || C.hasF h) = true := hh
    rw [beq_eq_false_iff_ne.mpr e] at hh'
    exact hh'
theorem GoodS.addI (g : GoodS P w K mg base T C B kk) {c n : Nat} {s : Sem} {f : Addr} (hm : mg (B.cnm c) = some (.ref (T.cad c))) (hk : Mk K (T.cad c) f) (F : FnS' P w K mg base T (kk + 2) f (n + 1) s) (hu : C.hasI c = false) : GoodS P w K mg base T (C.addI c n s) B (kk + 2) := by
  intro X hp hw hK hmg hb hc hr hG
  subst hp hw hK hmg hb
  refine (g X rfl rfl rfl rfl rfl hc (hr.mono (by omega)) hG).ext ⟨rfl, rfl, rfl, rfl, fun c h => .inl ⟨h, fun _ => rfl⟩, fun h hh => ?_, fun c m => .inl ⟨rfl, fun _ => rfl⟩, fun c f s e => .inl e⟩ (by omega) hr
  by_cases e : c = h
  · subst e
    refine .inr ⟨hm, f, hk, fun n' s' e' => ?_⟩
    rw [ini_addI] at e'
    split at e'
    · rename_i q
      cases e'
      rw [← q.2]
      exact F
    · rw [no_ini hu] at e'; cases e'
  · refine .inl ⟨?_, fun n' => by rw [ini_addI, if_neg (fun q => e q.1)]⟩
    have hh' : (c == h || C.hasI h) = true := hh
    rw [beq_eq_false_iff_ne.mpr e] at hh'
    exact hh'
theorem GoodS.addP (g : GoodS P w K mg base T C B kk) {c f : Nat} {s : Sem} {p a : Addr} (hc' : Cls K (T.cad c)) (hp' : PropOf K (T.cad c) (T.atn f) p a) (F : FnS' P w K mg base T (kk + 2) a 1 s) : GoodS P w K mg base T (C.addP c f s) B (kk + 2) := by
  intro X hp hw hK hmg hb hc hr hG
  subst hp hw hK hmg hb
  refine (g X rfl rfl rfl rfl rfl hc (hr.mono (by omega)) hG).ext ⟨rfl, rfl, rfl, rfl, fun c h => .inl ⟨h, fun _ => rfl⟩, fun c h => .inl ⟨h, fun _ => rfl⟩, fun c m => .inl ⟨rfl, fun _ => rfl⟩, fun d h s' e => ?_⟩ (by omega) hr
  rw [pr_addP] at e
  split at e
  · rename_i q
    cases e
    obtain ⟨rfl, rfl⟩ := q
    exact .inr ⟨p, a, hc', hp', F⟩
  · exact .inl e
theorem GoodS.addM (g : GoodS P w K mg base T C B kk) {c m n : Nat} {s : Sem} {a : Addr} (hcl : Cls K (T.cad c)) (ho : T.atn m ∉ T.names c) (hm : Meth K (T.cad c) (T.atn m) a) (F : FnS' P w K mg base T (kk + 2) a (n + 1) s) (hu : C.hasM c m = false)
    (hd : (m = aEq ∨ m = aLen ∨ m = aItem ∨ m = aAdd) → PySem.W.fnIn K a = true) (hn : (m = aEq ∨ m = aAdd) → PySem.W.findIn K (.ref (T.cad c)) "__ne__" = some (some (.builtin "object.__ne__")) ∧ PySem.W.subIn K (.ref (T.cad c)) (.type "object") = some true ∧ PySem.W.selfFirst K (T.cad c) = true)
    (hN : T.atn aEq = "__eq__" ∧ T.atn aLen = "__len__" ∧ T.atn aItem = "__getitem__" ∧ T.atn aAdd = "__add__") : GoodS P w K mg base T (C.addM c m n s) B (kk + 2) := by
  intro X hp hw hK hmg hb hc hr hG
  subst hp hw hK hmg hb
  refine (g X rfl rfl rfl rfl rfl hc (hr.mono (by omega)) hG).ext ⟨rfl, rfl, rfl, rfl, fun c h => .inl ⟨h, fun _ => rfl⟩, fun c h => .inl ⟨h, fun _ => rfl⟩, fun d p => ?_, fun c f s e => .inl e⟩ (by omega) hr
  by_cases e : c = d ∧ m = p
  · obtain ⟨rfl, rfl⟩ := e
    have one : ∀ n' s', (C.addM c m n s).mt c m n' = some s' → FnS X T (kk + 2) a (n' + 1) s' := fun n' s' e' => by
      rw [mt_addM] at e'
      split at e'
      · rename_i q
        cases e'
        rw [← q.2.2]
        exact F
      · rw [no_mt hu] at e'; cases e'
    refine .inr ⟨⟨hcl, ho, a, hm, one⟩, fun z => ?_, fun z => ?_, fun z => ?_, fun z => ?_⟩
    · subst z
      obtain ⟨q1, q2, q3⟩ := hn (.inl rfl)
      exact ⟨⟨a, by rw [← hN.1]; exact hm.at_, hm.fn, hd (.inl rfl), one 1⟩, ⟨q1, q2, q3⟩⟩
    · subst z
      obtain ⟨q1, q2, q3⟩ := hn (.inr rfl)
      exact ⟨⟨a, by rw [← hN.2.2.2]; exact hm.at_, hm.fn, hd (.inr (.inr (.inr rfl))), one 1⟩, ⟨q1, q2, q3⟩⟩
    · subst z
      exact ⟨a, by rw [← hN.2.1]; exact hm.at_, hm.fn, hd (.inr (.inl rfl)), one 0⟩
    · subst z
      exact ⟨a, by rw [← hN.2.2.1]; exact hm.at_, hm.fn, hd (.inr (.inr (.inl rfl))), one 1⟩
  · refine .inl ⟨?_, fun n' => by rw [mt_addM, if_neg (fun q => e ⟨q.1, q.2.1⟩)]⟩
    show ((c == d && m == p) || C.hasM d p) = C.hasM d p
    have : (c == d && m == p) = false := by
      cases q : (c == d && m == p) with
      | false => rfl
      | true =>
        simp only [Bool.and_eq_true, beq_iff_eq] at q
        exact absurd q e
    rw [this]; rfl
end
end SX
end
section
set_option Elab.async false
set_option linter.all false
set_option maxRecDepth 100000
set_option maxHeartbeats 4000000
/-! SX28: what is known of a program's parts, from the head's facts. -/
namespace SX
open PySem PySem.Spec PyProof.Rows L2
/-- what the numbers of a law's code stand for -/
structure Ld where
  cn : List (Str × List Nat)
  an : List Str
  fn : List Str
  gv : List (Str × D)
  gd : List (Str × List (Str × D))
  isc : List Nat
  fuel : Nat
def Ld.B (L : Ld) : Gb := ⟨fun f => L.fn.getD f Str.empty, fun c => (L.cn.map (·.1)).getD c Str.empty, fun g => (L.gv.map (·.1) ++ L.gd.map (·.1)).getD g Str.empty⟩
def Ld.flds (L : Ld) (c : Nat) : List Nat := (L.cn.map (·.2)).getD c []
def Ld.T (L : Ld) (K : PySem.W.Frag) : Tab := ⟨K, fun c => He.ga K (L.B.cnm c), fun a => L.an.getD a Str.empty, L.flds, true⟩
def numb {α : Type} : Nat → List α → List (Nat × α)
  | _, [] => []
  | n, x :: r => (n, x) :: numb (n + 1) r
theorem numb_lookup {α : Type} : ∀ {l : List α} {n i : Nat} {x : α}, (numb n l).lookup i = some x → n ≤ i ∧ l[i - n]? = some x
  | [], _, _, _, h => by cases h
  | y :: r, n, i, x, h => by
    unfold numb at h
    rw [List.lookup_cons] at h
    cases e : (i == n) with
    | true =>
      rw [e] at h
      have e' : i = n := beq_iff_eq.mp e
      subst e'
      exact ⟨Nat.le_refl _, by rw [Nat.sub_self]; exact h⟩
    | false =>
      rw [e] at h
      obtain ⟨h1, h2⟩ := numb_lookup (n := n + 1) h
      refine ⟨by omega, ?_⟩
      rw [show i - n = (i - (n + 1)) + 1 by omega]
      exact h2
def Ld.C (L : Ld) : Ctx := { flds := L.flds, fns := [], inis := [], mts := [], prs := [], gds := numb L.gv.length (L.gd.map (·.2)), fuel := L.fuel, cls := L.isc, gvs := numb 0 (L.gv.map (·.2)) }
/-- single data -/
def dvOf : D → Option V
  | .non => some .non
  | .bl b => some (.bl b)
  | .int i => some (.int i)
  | .str s => some (.str s)
  | _ => none
theorem dvOf_rep {T : Tab} {d : D} {v : V} (h : dvOf d = some v) (io : List Addr) (F : Hp) : Rep T io F d v := by
  cases d <;> first | (cases h; unfold Rep; rfl) | cases h
def dvB (d : D) (u : Value) : Bool := match dvOf d with
  | some v => He.relB v u
  | none => false
theorem dvB_ok {d : D} {u : Value} (h : dvB d u = true) : ∃ v, dvOf d = some v ∧ RelV v u := by
  unfold dvB at h
  cases e : dvOf d with
  | none => rw [e] at h; cases h
  | some v => rw [e] at h; exact ⟨v, rfl, He.relB_ok h⟩
def entsB : List (Str × D) → List DictEntry → Bool
  | [], [] => true
  | kv :: r, e :: es => (match e.key with
    | .str x _ => decide (x = kv.1)
    | _ => false) && (dvB kv.2 e.val && entsB r es)
  | _, _ => false
theorem ents_ref : ∀ {kvs : List (Str × D)} {es : List DictEntry}, entsB kvs es = true → es.any (·.refKey) = false
  | [], [], _ => rfl
  | [], _ :: _, h => by cases h
  | _ :: _, [], h => by cases h
  | kv :: r, e :: es, h => by
    obtain ⟨h1, h2⟩ := He.ba (show ((match e.key with
      | .str x _ => decide (x = kv.1)
      | _ => false) && (dvB kv.2 e.val && entsB r es)) = true from h)
    obtain ⟨h3, h4⟩ := He.ba h2
    rw [List.any_cons, ents_ref h4, Bool.or_false]
    unfold DictEntry.refKey
    cases q : e.key with
    | ref a => rw [q] at h1; cases h1
    | _ => rfl
theorem ents_find {z : Str} : ∀ {kvs : List (Str × D)} {es : List DictEntry}, entsB kvs es = true → (kvs.lookup z = none ∧ es.find? (·.key.isStr z) = none) ∨ ∃ d e, kvs.lookup z = some d ∧ es.find? (·.key.isStr z) = some e ∧ dvB d e.val = true
  | [], [], _ => .inl ⟨rfl, rfl⟩
  | [], _ :: _, h => by cases h
  | _ :: _, [], h => by cases h
  | kv :: r, e :: es, h => by
    obtain ⟨h1, h2⟩ := He.ba (show ((match e.key with
      | .str x _ => decide (x = kv.1)
      | _ => false) && (dvB kv.2 e.val && entsB r es)) = true from h)
    obtain ⟨h3, h4⟩ := He.ba h2
    cases q : e.key with
    | str x t =>
      rw [q] at h1
      have ex : x = kv.1 := of_decide_eq_true h1
      have ek : e.key.isStr z = (x == z) := by rw [q]; rfl
      obtain ⟨k, d⟩ := kv
      have ex' : x = k := ex
      subst ex'
      by_cases hz : x = z
      · subst hz
        refine .inr ⟨d, e, ?_, ?_, h3⟩
        · rw [List.lookup_cons, beq_self_eq_true]
        · rw [List.find?_cons, ek, beq_self_eq_true]
      · have n1 : (x == z) = false := beq_eq_false_iff_ne.mpr hz
        have n2 : (z == x) = false := beq_eq_false_iff_ne.mpr fun q => hz q.symm
        rcases ents_find (z := z) h4 with ⟨g1, g2⟩ | ⟨d', e', g1, g2, g3⟩
        · refine .inl ⟨?_, ?_⟩
          · rw [List.lookup_cons, n2]; exact g1
          · rw [List.find?_cons, ek, n1]; exact g2
        · refine .inr ⟨d', e', ?_, ?_, g3⟩
          · rw [List.lookup_cons, n2]; exact g1
          · rw [List.find?_cons, ek, n1]; exact g2
    | _ => rw [q] at h1; cases h1
def gdB (K : PySem.W.Frag) (a : Addr) (kvs : List (Str × D)) : Bool := match K.lookup a with
  | some ⟨_, _, .dict es _, _⟩ => entsB kvs es.toList
  | _ => false
theorem gdB_ok {K : PySem.W.Frag} {a : Addr} {kvs : List (Str × D)} (h : gdB K a kvs = true) (z : Str) : ∃ r, PySem.W.nsIn K a z = some r ∧ r.isSome = (kvs.lookup z).isSome ∧ ∀ v, kvs.lookup z = some v → ∃ u0 v0, r = some u0 ∧ RelV v0 u0 ∧ dvOf v = some v0 := by
  unfold gdB at h
  cases q : K.lookup a with
  | none => rw [q] at h; cases h
  | some o =>
    obtain ⟨oc, od, dt, osl⟩ := o
    rw [q] at h
    cases dt with
    | dict es n =>
      have h' : entsB kvs es.toList = true := h
      have en : PySem.W.nsIn K a z = (match es.toList.find? (·.key.isStr z) with
        | some e => some (some e.val)
        | none => if es.toList.any (·.refKey) then none else some none) := by
        unfold PySem.W.nsIn
        rw [q] <;> rfl
      rcases ents_find (z := z) h' with ⟨g1, g2⟩ | ⟨d, e, g1, g2, g3⟩
      · refine ⟨none, ?_, by rw [g1]; rfl, fun v e => by rw [g1] at e; cases e⟩
        rw [en, g2]
        show (if es.toList.any (·.refKey) = true then none else some none) = some none
        rw [ents_ref h']
        rfl
      · refine ⟨some e.val, by rw [en, g2], by rw [g1]; rfl, fun v ev => ?_⟩
        rw [g1] at ev
        cases ev
        obtain ⟨v0, x1, x2⟩ := dvB_ok g3
        exact ⟨e.val, v0, rfl, x2, x1⟩
    | _ => cases h
/-! ### the Bool -/
def gloB (K : PySem.W.Frag) (x : Str) : Bool := He.eqO (PySem.W.nsIn K mainGlobals x) (some (some (.ref (He.ga K x))))
def fldB (L : Ld) (K : PySem.W.Frag) (c : Nat) : Bool := decide ((L.flds c).length ≤ 100) && (decide ((L.T K).names c).Nodup && (L.flds c).all fun f => (He.Fa.cls (L.B.cnm c)).ok K && (He.Fa.noat (L.B.cnm c) (L.an.getD f Str.empty)).ok K)
def iscB (L : Ld) (K : PySem.W.Frag) (c : Nat) : Bool := (He.Fa.cls (L.B.cnm c)).ok K && (gloB K (L.B.cnm c) && (He.eqO (PySem.W.findIn K (.ref (He.ga K (L.B.cnm c))) "__class__") (some (some (.builtin "object.__class__"))) &&
  decide (PySem.W.mroIn K (He.ga K (L.B.cnm c)) (.type "object") = some true)))
def objB (K : PySem.W.Frag) : Bool := He.eqO (PySem.W.specialIn K (.builtin "object.__class__") "__get__") (some (some (.builtin "getset_descriptor.__get__"))) && decide (PySem.W.takesIn K (.builtin "object.__class__") = some true)
def tags (L : Ld) : List Tg := [.non, .bool, .int, .str, .list, .tuple] ++ L.isc.map .cls
def tyns (L : Ld) : List TyN := [.int, .bool, .str, .list, .tuple] ++ L.isc.map .cls
def kitB (L : Ld) (K : PySem.W.Frag) : Bool := (tags L).all fun g => (tyns L).all fun t => decide (PySem.W.kitOne K (tgV (L.T K) g) (tnV (L.T K) t) = some (isTg t g))
def gvB (K : PySem.W.Frag) (p : Str × D) : Bool := match PySem.W.nsIn K mainGlobals p.1 with
  | some (some u) => dvB p.2 u
  | _ => false
def freeB (K : PySem.W.Frag) (x : Str) : Bool := He.eqO (PySem.W.nsIn K mainGlobals x) (some none)
def freeNames : List Str := ["isinstance", "range", "enumerate", "zip", "len", "abs", "max", "min", "int", "str", "repr", "list", "tuple", "all", "any", "bool"]
def exB (L : Ld) (K : PySem.W.Frag) : Bool := (List.range L.cn.length).all (fldB L K) && (L.isc.all (iscB L K) && (objB K && (kitB L K && (L.gv.all (gvB K) && (L.gd.all (fun p => gloB K p.1 && gdB K (He.ga K p.1) p.2) && freeNames.all (freeB K))))))
def Ld.tabs (L : Ld) : List He.Tab := L.gd.map fun p => (fun K => He.ga K p.1, p.2.map (·.1))
theorem getD_out {α : Type} {l : List α} {i : Nat} {d : α} (h : l.length ≤ i) : l.getD i d = d := by rw [List.getD_eq_getElem?_getD, List.getElem?_eq_none h]; rfl
theorem flds_lt {L : Ld} {c f j : Nat} (h : (L.flds c).idxOf? f = some j) : c < L.cn.length ∧ f ∈ L.flds c := by
  rw [List.idxOf?_eq_some_iff] at h
  obtain ⟨hl, e, _⟩ := h
  have hm : f ∈ L.flds c := by rw [← e]; exact List.getElem_mem hl
  refine ⟨?_, hm⟩
  refine Nat.lt_of_not_le fun hn => ?_
  unfold Ld.flds at hm
  rw [getD_out (by rw [List.length_map]; exact hn)] at hm
  cases hm
theorem tag_mem {L : Ld} {g : Tg} (h : tgOk L.C g = true) : g ∈ tags L := by
  unfold tags
  cases g with
  | cls c => exact List.mem_append_right _ (List.mem_map.mpr ⟨c, List.contains_iff_mem.mp h, rfl⟩)
  | _ => exact List.mem_append_left _ (by simp)
theorem tyn_mem {L : Ld} {t : TyN} (h : tyOk L.C t = true) : t ∈ tyns L := by
  unfold tyns
  cases t with
  | cls c => exact List.mem_append_right _ (List.mem_map.mpr ⟨c, List.contains_iff_mem.mp h, rfl⟩)
  | _ => exact List.mem_append_left _ (by simp)
theorem base_good {P : Program} {w : World} {K : PySem.W.Frag} {mg : Str → Option Value} {base h : Heap} (L : Ld) (KX : K.In h) (G : h.Ns mainGlobals mg) (ex : exB L K = true) (kd : ∀ p ∈ L.gd, ∃ es n, KDict K w (He.ga K p.1) es n) :
    GoodS P w K mg base (L.T K) L.C L.B 0 := by
  intro X hp hw hK hmg hb hc hr hG
  subst hp hw hK hmg hb
  obtain ⟨x1, ex⟩ := He.ba ex
  obtain ⟨x2, ex⟩ := He.ba ex
  obtain ⟨x3, ex⟩ := He.ba ex
  obtain ⟨x4, ex⟩ := He.ba ex
  obtain ⟨x5, ex⟩ := He.ba ex
  obtain ⟨x6, x7⟩ := He.ba ex
  obtain ⟨o1, o2⟩ := He.ba x3
  have fr : ∀ x, x ∈ freeNames → X.mg x = none := fun x hx => PySem.W.mg_none_of KX G (He.eqO_ok (List.all_eq_true.mp x7 x hx))
  have fl : ∀ c, c < L.cn.length → fldB L X.K c = true := fun c hc => List.all_eq_true.mp x1 c (List.mem_range.mpr hc)
  refine ⟨rfl, rfl, hc, hr, hG, fun c => ?_, fun f hf => ?_, fun c hc => ?_, fun c m hm => ?_, fun f => ⟨fun c j e => ?_, fun c s e => ?_⟩, fun c s e => ?_, fun c s e => ?_, fun c s e => ?_, fun c s e => ?_, ⟨fun c hc => ?_, fun g t hg ht => ?_⟩, fun c hc => ?_, fun i hi => ⟨?_⟩, fun i hi => ?_, fun b => ?_, fr _ (by decide), fr _ (by decide), fr _ (by decide), fr _ (by decide)⟩
  · by_cases hc : c < L.cn.length
    · exact of_decide_eq_true (He.ba (fl c hc)).1
    · show (L.flds c).length ≤ 100
      unfold Ld.flds
      rw [getD_out (by rw [List.length_map]; omega)]
      exact Nat.zero_le _
  · cases hf
  · cases hc
  · cases hm
  · obtain ⟨h1, h2⟩ := flds_lt e
    obtain ⟨_, y⟩ := He.ba (fl c h1)
    obtain ⟨y1, y2⟩ := He.ba y
    obtain ⟨y3, y4⟩ := He.ba (List.all_eq_true.mp y2 f h2)
    exact ⟨He.cls_ok y3, He.noat_ok y4, of_decide_eq_true y1⟩
  · cases e
  · cases e
  · cases e
  · cases e
  · cases e
  · obtain ⟨y1, y⟩ := He.ba (List.all_eq_true.mp x2 c (List.contains_iff_mem.mp hc))
    obtain ⟨y2, y⟩ := He.ba y
    obtain ⟨y3, y4⟩ := He.ba y
    exact ⟨He.cls_ok y1, He.eqO_ok y3, He.eqO_ok o1, of_decide_eq_true o2, of_decide_eq_true y4⟩
  · exact of_decide_eq_true (List.all_eq_true.mp (List.all_eq_true.mp x4 g (tag_mem hg)) t (tyn_mem ht))
  · obtain ⟨y1, y⟩ := He.ba (List.all_eq_true.mp x2 c (List.contains_iff_mem.mp hc))
    obtain ⟨y2, y⟩ := He.ba y
    exact PySem.W.mg_of KX G (He.eqO_ok y2)
  · unfold Ctx.hasD at hi
    cases q : L.C.gds.lookup i with
    | none => rw [q] at hi; cases hi
    | some kvs =>
      obtain ⟨h1, h2⟩ := numb_lookup q
      rw [List.getElem?_map] at h2
      cases q2 : L.gd[i - L.gv.length]? with
      | none => rw [q2] at h2; cases h2
      | some p =>
        rw [q2] at h2
        have ek : p.2 = kvs := Option.some.inj h2
        have en : L.B.gnm i = p.1 := by
          show (L.gv.map (·.1) ++ L.gd.map (·.1)).getD i Str.empty = p.1
          rw [List.getD_eq_getElem?_getD, List.getElem?_append_right (by rw [List.length_map]; exact h1), List.length_map, List.getElem?_map, q2]
          rfl
        obtain ⟨y1, y2⟩ := He.ba (List.all_eq_true.mp x6 p (List.mem_of_getElem? q2))
        obtain ⟨es, n, k⟩ := kd p (List.mem_of_getElem? q2)
        refine ⟨_, es, n, by rw [en]; exact PySem.W.mg_of KX G (He.eqO_ok y1), k, fun kvs' e z => ?_⟩
        have e' : kvs' = p.2 := by
          have : L.C.gds.lookup i = some kvs' := e
          rw [q] at this
          rw [ek]
          exact (Option.some.inj this).symm
        subst e'
        obtain ⟨r, z1, z2, z3⟩ := gdB_ok y2 z
        exact ⟨r, z1, z2, fun v ev => by
          obtain ⟨u0, v0, w1, w2, w3⟩ := z3 v ev
          exact ⟨u0, v0, w1, w2, fun io F => dvOf_rep w3 io F⟩⟩
  · unfold Ctx.hasG at hi
    cases q : L.C.gvs.lookup i with
    | none => rw [q] at hi; cases hi
    | some d =>
      obtain ⟨h1, h2⟩ := numb_lookup q
      rw [Nat.sub_zero, List.getElem?_map] at h2
      cases q2 : L.gv[i]? with
      | none => rw [q2] at h2; cases h2
      | some p =>
        rw [q2] at h2
        have ed : p.2 = d := Option.some.inj h2
        have en : L.B.gnm i = p.1 := by
          show (L.gv.map (·.1) ++ L.gd.map (·.1)).getD i Str.empty = p.1
          rw [List.getD_eq_getElem?_getD, List.getElem?_append_left (by rw [List.length_map]; exact (List.getElem?_eq_some_iff.mp q2).1), List.getElem?_map, q2]
          rfl
        have y := List.all_eq_true.mp x5 p (List.mem_of_getElem? q2)
        unfold gvB at y
        cases q3 : PySem.W.nsIn X.K mainGlobals p.1 with
        | none => rw [q3] at y; cases y
        | some r =>
          rw [q3] at y
          cases r with
          | none => cases y
          | some u =>
            obtain ⟨v, z1, z2⟩ := dvB_ok y
            refine ⟨u, v, by rw [en]; exact PySem.W.mg_of KX G q3, z2, fun d' io F e => ?_⟩
            have e' : some d = some d' := e
            cases e'
            rw [← ed]
            exact dvOf_rep z1 io F
  · cases b <;> exact fr _ (by decide)
/-! ### the law's entry -/
theorem of_relV {ns : List Int} : ∀ {us : List Value} {vs : List V}, Vals vs us → Vals vs us := fun h => h
end SX
end
section
set_option Elab.async false
set_option linter.all false
set_option maxRecDepth 100000
set_option maxHeartbeats 4000000
/-! SX29: the law's entry: the script is a list of ints that nobody changes. -/
namespace SX
open PySem PySem.Spec PyProof.Rows L2
/-- where the script is tracked -/
def scH (K : PySem.W.Frag) (a : Addr) (o : Obj) (xs : List V) : Hp := fun b => if b = a ∧ (K.lookup a).isNone then some (.frz o (.lst xs)) else none
section
variable {K : PySem.W.Frag} {a : Addr} {o : Obj} {xs : List V}
theorem scH_some {b : Addr} {u : HO} (h : scH K a o xs b = some u) : b = a ∧ K.lookup a = none ∧ u = .frz o (.lst xs) := by
  unfold scH at h
  split at h
  · rename_i q
    exact ⟨q.1, Option.isNone_iff_eq_none.mp q.2, (Option.some.inj h).symm⟩
  · cases h
theorem scH_or {b : Addr} (h : b ≠ a ∨ K.lookup a ≠ none) : scH K a o xs b = none := by
  unfold scH
  rw [if_neg]
  rintro ⟨q1, q2⟩
  rcases h with h | h
  · exact h q1
  · exact h (Option.isNone_iff_eq_none.mp q2)
end
theorem entry {P : Program} {w : World} {K : PySem.W.Frag} {mg mb : Str → Option Value} {T : Tab} {k : Nat} {fa a : Addr} {s : Sem} {s₁ : Shared} {us : List Value} {ns : List Int} (hTK : T.K = K)
    (KX : K.In s₁.heap) (hns : s₁.heap.Ns mainGlobals mg) (hb : s₁.heap.Ns builtinsNs mb) (hbb : ∀ x : Str, x ≠ "__name__" → mb x = bootBuiltins x) (hlim : s₁.heap.NoLimit) (hg : s₁.gens = #[])
    (ha : s₁.heap.get? a = some { cls := .type "list", data := .seq us.toArray }) (hi : IntsAre us ns) (hl : ns.length ≤ sizeLine) (hr : Room k callerA)
    (F : ∀ base : Heap, K.In base → base.Ns mainGlobals mg → FnS' P w K mg base T k fa 1 s)
    (hs : ∃ h, s [.rol (ns.map D.int)] [] = .ok (.bl true) h) :
    codeAny (model P w) callerA (.call (.ref fa) ⟨[.ref a], []⟩) (fun r s' => r = .ok (.ret (.bool true)) ∧ OldK s₁.heap s'.heap ∧ s'.os = s₁.os ∧ AllBare s'.gens) s₁ := by
  obtain ⟨h1, e1⟩ := hs
  have rv : Vals (ns.map V.int) us := vals_ints hi
  have hlen : us.length = ns.length := hi.length
  let ob : Obj := { cls := .type "list", data := .seq us.toArray }
  let H : Hp := scH K a ob (ns.map V.int)
  have hok : HOk P w H s₁.heap := fun b u z => by
    obtain ⟨rfl, _, rfl⟩ := scH_some z
    exact ⟨ha, by rw [List.length_map]; exact hl, us, _, rv, ha⟩
  have sq : SqL K H a (ns.map V.int) := by
    cases q : K.lookup a with
    | none => exact .inl (.inr ⟨ob, by show scH K a ob _ a = _; unfold scH; rw [if_pos ⟨rfl, by rw [q]; rfl⟩]⟩)
    | some o =>
      have e := KX a o q
      rw [ha] at e
      cases e
      exact .inr ⟨_, us.toArray, _, q, rfl, rfl, rfl, by rw [List.size_toArray, hlen]; exact hl, by simpa using rv⟩
  have away : ∀ {b : Addr} {o : Obj} {es : Array DictEntry} {ep : Nat}, s₁.heap.get? b = some o → o.data = .dict es ep → H b = none := fun {b o es ep} e d => by
    refine scH_or (.inl fun q => ?_)
    subst q
    rw [ha] at e
    cases e
    have d' : Data.seq us.toArray _ = Data.dict es ep := d
    cases d'
  have keep : ∀ {b : Addr} {m : Str → Option Value}, s₁.heap.Ns b m → (hidT s₁.heap H).Ns b m := fun {b m} ⟨o, es, ep, e, d, r⟩ => ⟨o, es, ep, hidT_get e (away e d), d, r⟩
  have KB : K.In (hidT s₁.heap H) := fun b o e => hidT_get (KX b o e) (scH_or (by
    by_cases q : b = a
    · subst q
      exact .inr (by rw [e]; exact Option.some_ne_none _)
    · exact .inl q))
  have M : Mod K mg (hidT s₁.heap H) := ⟨KB, keep hns, ⟨mb, keep hb, hbb⟩, by
    obtain ⟨mc, q1, q2⟩ := hlim
    exact ⟨mc, keep q1, q2⟩⟩
  have none_in : ∀ b : Addr, b ∉ frs ([] : List PySem.Env) := fun b hb => absurd (show b ∈ ([] : List Addr) from hb) (by simp)
  have e0 : Env0 P w K mg (hidT s₁.heap H) callerA [] s₁ H := ⟨rfl, M, fun b o e => of_hidT e, Nat.le_of_eq (hidT_size _ _), trivial, fun b hb => absurd hb (none_in b), hok, .of_eq hg⟩
  have fzH : ∀ (io : List Addr), fz io [] H = H := fun io => by
    funext b
    exact fz_of fun ⟨n, c, _, q⟩ => by simp at q
  have S : Sim T [] [] H := ⟨rfl, List.nodup_nil, fun n b e => by simp at e, fun n b c e => by simp at e⟩
  have rs : ∀ (l : List Int), Reps T [] H (l.map D.int) (l.map V.int) := fun l => by
    induction l with
    | nil => exact Reps.nil
    | cons i l ih => exact Reps.cons (by unfold Rep; rfl) ih
  have r1 : Reps T [] (fz [] [] H) [.rol (ns.map D.int)] [.ref a] := by
    rw [fzH]
    refine Reps.cons ?_ Reps.nil
    unfold Rep
    exact ⟨a, _, rfl, by rw [hTK]; exact sq, rs ns⟩
  have p : Post T [] [] H [] (fun c d _ H' => (fun _ _ _ => False : XK) c d H') (Rep T) (fun v _ => v = .bl true) (s [.rol (ns.map D.int)] []) := by
    rw [e1]
    intro io' H' v S' G' rv'
    unfold Rep at rv'
    exact rv'
  refine codeAny_mono (F _ KB (keep hns) callerA [] s₁ H [.ref a] [.ref a] (fun v _ => v = .bl true) (fun _ _ _ => False) hr rfl e0 (.cons rfl .nil) ⟨[], [], _, S, r1, rfl, p⟩) fun r s' q => ?_
  cases r with
  | error e =>
    obtain ⟨_, _, _, _, _, _, _, _, _, _, _, _, z⟩ := q
    exact z.elim
  | ok fl =>
    cases fl with
    | next => exact False.elim q
    | brk => exact False.elim q
    | cont => exact False.elim q
    | ret u =>
      obtain ⟨v, H', os, bare, un, hok', r', q⟩ := q
      have q' : v = .bl true := q
      subst q'
      obtain rfl : u = Value.bool true := r'
      refine ⟨rfl, OldK.of_keep fun b o e => ?_, os, bare⟩
      cases z : H b with
      | none => exact un.keep b o e z (none_in b) (by simp)
      | some u =>
        obtain ⟨rfl, _, rfl⟩ := scH_some z
        obtain ⟨e2, _⟩ := hok' _ _ (un.frzs _ _ _ z)
        rw [ha] at e
        cases e
        exact e2
theorem walk_S {l : PySem.W.OpenLaw} {n k : Nat} {q : Program} {loose : List Str} {XP : (Str → Option Value) → Heap → Prop} {YP : World → Heap → Prop} {d : DefRec}
    (hn : l.most = some n) (hn2 : n ≤ sizeLine) (hdf : d.params.defaults = []) (hr : Room k callerA)
    (F : ∀ (w : World) (mg : Str → Option Value) (fa : Addr) (h : Heap), YP w h → h.Ns mainGlobals mg → mg d.name = some (.ref fa) →
      ∃ (K : PySem.W.Frag) (T : Tab) (s : Sem), T.K = K ∧ K.In h ∧ (∀ ns : List Int, ns.length ≤ n → ∃ h, s [.rol (ns.map D.int)] [] = .ok (.bl true) h) ∧
        ∀ base : Heap, K.In base → base.Ns mainGlobals mg → FnS' l.prog w K mg base T k fa 1 s) :
    PySem.W.WalkO q loose XP YP l.row.toRowW d [] (fun f vs => PySem.call f vs) := by
  refine Att.attach_call hn hdf fun w s₀ s₁ mg mb fa o pm cd doc a vs ns G Y ho hd hcd hmg hobj hints hlen hg => ?_
  obtain ⟨K, T, s, hT, KX, hs, hF⟩ := F w mg fa _ Y G.T.g hmg
  exact entry hT KX G.T.g G.T.b G.T.builtins G.T.nolimit hg hobj hints (Nat.le_trans hlen hn2) hr hF (hs ns hlen)
end SX
end
section
set_option Elab.async false
set_option linter.all false
set_option maxRecDepth 100000
set_option maxHeartbeats 4000000
/-! SX30: what the head tells of the defs, methods, properties. -/
namespace SX
open PySem PySem.Spec PyProof.Rows L2
/-- where a def stands: a function, a method, a property's getter, what a class method wraps -/
inductive At where
  | fn (x : Str) | mt (c m : Str) | pr (c m : Str) | cm (c m : Str)
def headIn (K : PySem.W.Frag) (p : Addr) (T : String) : Addr := match PySem.W.recIn K p T with
  | some (.ref g :: _) => g
  | _ => 0
def At.ad (K : PySem.W.Frag) : At → Addr
  | .fn x => He.ga K x
  | .mt c m => He.ma K (He.ga K c) m
  | .pr c m => headIn K (He.ma K (He.ga K c) m) "property"
  | .cm c m => headIn K (He.ma K (He.ga K c) m) "classmethod"
structure Dd where
  at_ : At
  name : Str
  qual : Str
  params : Arguments
  body : List Stmt
  scope : Scope
  dfl : List He.Dv := []
def fnA (K : PySem.W.Frag) (a : Addr) : He.FnW := match K.lookup a with
  | some ⟨_, _, .func fd, _⟩ => some (fd.name, fd.qualname, fd.params, fd.body, fd.scope, fd.globals, fd.closure, fd.builtins)
  | _ => none
def Dd.val (d : Dd) : He.FnW := some (d.name, d.qual, d.params, .stmts d.body, d.scope, mainGlobals, [], builtinsNs)
def Dd.dvs (K : PySem.W.Frag) (d : Dd) : List V := d.dfl.map (He.Dv.v K)
def Dd.ok (K : PySem.W.Frag) (d : Dd) : Bool := PySem.W.keepIn K (.ref (d.at_.ad K)) && (match K.lookup (d.at_.ad K) with
  | some ⟨_, _, .func fd, _⟩ => PySem.W.codeIn K fd.code d.qual && He.dflB K fd.defaults (d.dvs K)
  | _ => false)
theorem Dd.funD {K : PySem.W.Frag} {d : Dd} (e : fnA K (d.at_.ad K) = d.val) (c : d.ok K = true) : ∃ fd, FunD K d.name d.qual d.params d.body d.scope (d.dvs K) [] (d.at_.ad K) fd := by
  obtain ⟨kp, c2⟩ := He.ba c
  unfold fnA at e
  cases q : K.lookup (d.at_.ad K) with
  | none => rw [q] at c2; cases c2
  | some o =>
    obtain ⟨oc, od, dt, osl⟩ := o
    rw [q] at c2 e
    cases dt with
    | func fd =>
      obtain ⟨n1, n2, n3, n4, n5, n6, n7, n8, n9, n10, n11, n12, n13, n14, n15⟩ := fd
      have e2 : (some (n1, n2, n3, n4, n5, n6, n7, n15) : He.FnW) = some (d.name, d.qual, d.params, .stmts d.body, d.scope, mainGlobals, [], builtinsNs) := e
      simp only [Option.some.injEq, Prod.mk.injEq] at e2
      obtain ⟨h1, h2, h3, h4, h5, h6, h7, h8⟩ := e2
      subst h1 h2 h3 h4 h5 h6 h7 h8
      obtain ⟨k1, k2⟩ := He.ba (show (PySem.W.codeIn K n13 d.qual && He.dflB K n8 (d.dvs K)) = true from c2)
      exact ⟨_, ⟨oc, od, n8, n9, n10, n11, n12, n13, n14, osl, rfl, q, k1, He.dflB_ok k2, .inl rfl⟩, kp⟩
    | _ => cases c2
/-! ### single facts -/
inductive Fk where
  | mk (c : Str) | mt (c m : Str) | pr (c m : Str) | dn (c m : Str) | ne (c : Str) | fn (x : Str)
def Fk.ok (K : PySem.W.Frag) : Fk → Bool
  | .mk c => gloB K c && (He.Fa.mkr c).ok K
  | .mt c m => (He.Fa.cls c).ok K && (He.Fa.meth c m).ok K
  | .pr c m => (He.Fa.cls c).ok K && (He.eqO (PySem.W.findIn K (.ref (He.ga K c)) m) (some (some (.ref (He.ma K (He.ga K c) m)))) && (He.eqO (PySem.W.specialIn K (.ref (He.ma K (He.ga K c) m)) "__get__") (some (some (.builtin "property.__get__"))) &&
      (decide (PySem.W.takesIn K (.ref (He.ma K (He.ga K c) m)) = some true) && (match PySem.W.recIn K (He.ma K (He.ga K c) m) "property" with
        | some (.ref _ :: _) => true
        | _ => false))))
  | .dn c m => PySem.W.fnIn K (He.ma K (He.ga K c) m)
  | .ne c => He.eqO (PySem.W.findIn K (.ref (He.ga K c)) "__ne__") (some (some (.builtin "object.__ne__"))) && (decide (PySem.W.subIn K (.ref (He.ga K c)) (.type "object") = some true) && PySem.W.selfFirst K (He.ga K c))
  | .fn x => gloB K x && PySem.W.keepIn K (.ref (He.ga K x))
section
variable {K : PySem.W.Frag} {h : Heap} {mg : Str → Option Value}
theorem gloB_ok (KX : K.In h) (G : h.Ns mainGlobals mg) {x : Str} (c : gloB K x = true) : mg x = some (.ref (He.ga K x)) := PySem.W.mg_of KX G (He.eqO_ok c)
theorem fk_mk (KX : K.In h) (G : h.Ns mainGlobals mg) {c : Str} (q : (Fk.mk c).ok K = true) : mg c = some (.ref (He.ga K c)) ∧ Mk K (He.ga K c) (At.ad K (.mt c "__init__")) := by
  obtain ⟨q1, q2⟩ := He.ba q
  exact ⟨gloB_ok KX G q1, He.mkr_ok q2⟩
theorem fk_fn (KX : K.In h) (G : h.Ns mainGlobals mg) {c : Str} (q : (Fk.fn c).ok K = true) : mg c = some (.ref (At.ad K (.fn c))) ∧ PySem.W.keepIn K (.ref (At.ad K (.fn c))) = true := by
  obtain ⟨q1, q2⟩ := He.ba q
  exact ⟨gloB_ok KX G q1, q2⟩
theorem fk_mt {c m : Str} (q : (Fk.mt c m).ok K = true) : Cls K (He.ga K c) ∧ Meth K (He.ga K c) m (At.ad K (.mt c m)) := by
  obtain ⟨q1, q2⟩ := He.ba q
  exact ⟨He.cls_ok q1, He.meth_ok q2⟩
theorem fk_pr {c m : Str} (q : (Fk.pr c m).ok K = true) : Cls K (He.ga K c) ∧ ∃ p, PropOf K (He.ga K c) m p (At.ad K (.pr c m)) := by
  obtain ⟨q1, q⟩ := He.ba q
  obtain ⟨q2, q⟩ := He.ba q
  obtain ⟨q3, q⟩ := He.ba q
  obtain ⟨q4, q5⟩ := He.ba q
  refine ⟨He.cls_ok q1, _, He.eqO_ok q2, He.eqO_ok q3, of_decide_eq_true q4, ?_⟩
  show ∃ rest, PySem.W.recIn K (He.ma K (He.ga K c) m) "property" = some (.ref (headIn K (He.ma K (He.ga K c) m) "property") :: rest)
  unfold headIn
  cases e : PySem.W.recIn K (He.ma K (He.ga K c) m) "property" with
  | none => rw [e] at q5; cases q5
  | some l =>
    rw [e] at q5
    cases l with
    | nil => cases q5
    | cons v rest =>
      cases v with
      | ref g => exact ⟨rest, rfl⟩
      | _ => cases q5
theorem fk_ne {c : Str} (q : (Fk.ne c).ok K = true) : PySem.W.findIn K (.ref (He.ga K c)) "__ne__" = some (some (.builtin "object.__ne__")) ∧ PySem.W.subIn K (.ref (He.ga K c)) (.type "object") = some true ∧ PySem.W.selfFirst K (He.ga K c) = true := by
  obtain ⟨q1, q⟩ := He.ba q
  obtain ⟨q2, q3⟩ := He.ba q
  exact ⟨He.eqO_ok q1, of_decide_eq_true q2, q3⟩
end
/-! ### the Hook -/
abbrev AlS : Type := (Bool × List He.FnW) × List (Option (List (Option (Str × Int))))
def obsK (L : Ld) (fk : List Fk) (ds : List Dd) (K : PySem.W.Frag) : AlS := ((exB L K && ((fk.all fun f => f.ok K) && ds.all fun d => d.ok K), ds.map fun d => fnA K (d.at_.ad K)), L.tabs.map fun t => He.dicW K (t.1 K))
def obsS (n : Nat) (L : Ld) (fk : List Fk) (ds : List Dd) (g : Addr → Option Obj) : AlS := obsK L fk ds (He.frG g (He.asD g n))
def valS (L : Ld) (ds : List Dd) (w : World) : AlS := ((true, ds.map Dd.val), L.tabs.map fun t => some (He.keysIn w.params t.2))
def hookS (n : Nat) (L : Ld) (fk : List Fk) (ds : List Dd) : PySem.W.Hook where
  α := AlS
  obs := fun s => obsS n L fk ds s.heap.get?
  val := fun w => valS L ds w
  says := fun w h => ∃ K : PySem.W.Frag, K.In h ∧ obsK L fk ds K = valS L ds w
  of := fun _ _ e => ⟨_, He.frG_in, e⟩
  keeps := fun _ _ _ ⟨K, hK, c⟩ k => ⟨K, PySem.W.Frag.In.keeps hK k, c⟩
theorem obsS_eq {n : Nat} {L : Ld} {fk : List Fk} {ds : List Dd} {g : Addr → Option Obj} {s : Shared} (h : ∀ a, g a = s.heap.get? a) : obsS n L fk ds g = (hookS n L fk ds).obs s := by
  have e : g = s.heap.get? := funext h
  rw [e] <;> rfl
section
variable {L : Ld} {fk : List Fk} {ds : List Dd} {w : World} {K : PySem.W.Frag}
theorem says_ex (c : obsK L fk ds K = valS L ds w) : exB L K = true := (He.ba (congrArg (fun z : AlS => z.1.1) c)).1
theorem says_fk (c : obsK L fk ds K = valS L ds w) (i : Nat) {f : Fk} (h : fk[i]? = some f := by rfl) : f.ok K = true :=
  List.all_eq_true.mp (He.ba (He.ba (show (exB L K && ((fk.all fun f => f.ok K) && ds.all fun d => d.ok K)) = true from congrArg (fun z : AlS => z.1.1) c)).2).1 f (List.mem_of_getElem? h)
theorem says_def (c : obsK L fk ds K = valS L ds w) (i : Nat) {d : Dd} (h : ds[i]? = some d := by rfl) : ∃ fd, FunD K d.name d.qual d.params d.body d.scope (d.dvs K) [] (d.at_.ad K) fd := by
  have c2 := (He.ba (He.ba (show (exB L K && ((fk.all fun f => f.ok K) && ds.all fun d => d.ok K)) = true from congrArg (fun z : AlS => z.1.1) c)).2).2
  have e : (ds.map fun d => fnA K (d.at_.ad K)) = ds.map Dd.val := congrArg (fun z : AlS => z.1.2) c
  have e2 : (ds.map fun d => fnA K (d.at_.ad K))[i]? = (ds.map Dd.val)[i]? := by rw [e]
  rw [List.getElem?_map, List.getElem?_map, h] at e2
  exact Dd.funD (Option.some.inj e2) (List.all_eq_true.mp c2 d (List.mem_of_getElem? h))
theorem says_kd (c : obsK L fk ds K = valS L ds w) : ∀ p ∈ L.gd, ∃ es n, KDict K w (He.ga K p.1) es n := fun p hp => by
  obtain ⟨i, hi, e⟩ := List.mem_iff_getElem.mp hp
  have e0 : L.tabs.map (fun t => He.dicW K (t.1 K)) = L.tabs.map fun t => some (He.keysIn w.params t.2) := congrArg (fun z : AlS => z.2) c
  have ht : L.tabs[i]? = some (fun K => He.ga K p.1, p.2.map (·.1)) := by
    unfold Ld.tabs
    rw [List.getElem?_map, List.getElem?_eq_getElem hi, e]
    rfl
  have e2 : (L.tabs.map (fun t => He.dicW K (t.1 K)))[i]? = (L.tabs.map fun t => some (He.keysIn w.params t.2))[i]? := by rw [e0]
  rw [List.getElem?_map, List.getElem?_map, ht] at e2
  exact He.dicW_ok (Option.some.inj e2)
theorem says_good {P : Program} {mg : Str → Option Value} {base h : Heap} (KX : K.In h) (G : h.Ns mainGlobals mg) (c : obsK L fk ds K = valS L ds w) : GoodS P w K mg base (L.T K) L.C L.B 0 := base_good L KX G (says_ex c) (says_kd c)
end
end SX
end
section
set_option Elab.async false
set_option linter.all false
set_option maxRecDepth 100000
set_option maxHeartbeats 4000000
/-! VS1: the evaluator by values: a mutable object is the value of the one name that holds it. -/
namespace SX
open PySem
inductive Vl where
  | fr (d : D) | ls (l : List D) | di (kvs : List (L2.Key × Vl)) | ob (c : Nat) (fs : List Vl)
instance : Inhabited Vl := ⟨.fr .non⟩
abbrev VE := List (Option Vl)
inductive R2 (α : Type) where
  | ok (a : α) (e : VE) | ex (x : Exn) (e : VE) | stuck
def M2 (α : Type) := VE → R2 α
def R2.bnd {α β : Type} (r : R2 α) (f : α → M2 β) : R2 β := match r with
  | .ok a e => f a e
  | .ex x e => .ex x e
  | .stuck => .stuck
def ret2 {α : Type} (a : α) : M2 α := fun e => .ok a e
def stk2 {α : Type} : M2 α := fun _ => .stuck
def thw2 {α : Type} (x : Exn) : M2 α := fun e => .ex x e
def bnd2 {α β : Type} (m : M2 α) (f : α → M2 β) : M2 β := fun e => (m e).bnd f
def lift2 {α : Type} : Option α → M2 α
  | some a => ret2 a
  | none => stk2
def guard2 (b : Bool) : M2 Unit := if b = true then ret2 () else stk2
def R2.noEx {α : Type} (r : R2 α) : R2 α := match r with
  | .ok a e => .ok a e
  | _ => .stuck
def noEx2 {α : Type} (m : M2 α) : M2 α := fun e => (m e).noEx
/-- the outcome of an operation that looks at no object -/
def pureO {α : Type} (m : EM α) : Option α := match m [] with
  | .ok a _ => some a
  | _ => none
def Vl.isFr : Vl → Bool
  | .fr _ => true
  | _ => false
def asFr : Vl → M2 D
  | .fr d => ret2 d
  | _ => stk2
def takeV (i : Nat) : M2 Vl := fun e => match e[i]? with
  | some (some v) => match v with
    | .fr d => .ok (.fr d) e
    | v => .ok v (e.set i none)
  | _ => .stuck
def frsD : List Vl → Option (List D)
  | [] => some []
  | .fr d :: l => (frsD l).map (d :: ·)
  | _ => none
def D.isRef : D → Bool
  | .ref _ => true
  | _ => false
/-- the value, from here on frozen -/
def frzd : Vl → Option D
  | .fr d => if d.isRef then none else some d
  | .ls l => some (.lst l)
  | .di kvs => (frsD (kvs.map (·.2))).map fun ds => .dic (kvs.map (·.1)) ds
  | .ob c fs => (frsD fs).map fun ds => .obj c ds
def frzV (i : Nat) : M2 Vl := fun e => match e[i]? with
  | some (some v) => match v with
    | .fr d => if d.isRef then .stuck else .ok (.fr d) e
    | v => match frzd v with
      | some d => .ok (.fr d) (e.set i none)
      | none => .stuck
  | _ => .stuck
/-- what a call gives: the result, and what the mutable arguments are now -/
inductive RF where
  | ok (v : Vl) (outs : List (Option Vl)) | ex (x : Exn) (outs : List (Option Vl)) | stuck
abbrev Sem2 := List Vl → RF
inductive Arg where
  | val (v : Vl) | bor (i : Nat)
structure Cx2 where
  flds : Nat → List Nat
  fns : List (Nat × Nat × Sem2)
  inis : List (Nat × Nat × Sem2)
  mts : List (Nat × Nat × Nat × Sem2)
  prs : List (Nat × Nat × Sem2)
  gds : List (Nat × List (Str × D))
  fuel : Nat
  cls : List Nat
  gvs : List (Nat × D)
def Cx2.fn (C : Cx2) (f n : Nat) : Option Sem2 := (C.fns.find? fun p => p.1 == f && p.2.1 == n).map (·.2.2)
def Cx2.ini (C : Cx2) (c n : Nat) : Option Sem2 := (C.inis.find? fun p => p.1 == c && p.2.1 == n).map (·.2.2)
def Cx2.mt (C : Cx2) (c m n : Nat) : Option Sem2 := (C.mts.find? fun p => p.1 == c && (p.2.1 == m && p.2.2.1 == n)).map (·.2.2.2)
def Cx2.pr (C : Cx2) (c f : Nat) : Option Sem2 := (C.prs.find? fun p => p.1 == c && p.2.1 == f).map (·.2.2)
def Cx2.gd (C : Cx2) (x : Nat) : Option (List (Str × D)) := C.gds.lookup x
def Cx2.hasM (C : Cx2) (c m : Nat) : Bool := C.mts.any fun p => p.1 == c && p.2.1 == m
def getA1 (e : VE) : Arg → Option Vl
  | .val v => some v
  | .bor i => match e[i]? with
    | some o => o
    | none => none
def getA (e : VE) : List Arg → Option (List Vl)
  | [] => some []
  | a :: l => match getA1 e a, getA e l with
    | some v, some vs => some (v :: vs)
    | _, _ => none
/-- the names whose objects are lent -/
def lent : List Arg → List Vl → List Nat
  | a :: l, v :: vs => match v, a with
    | .fr _, _ => lent l vs
    | _, .bor i => i :: lent l vs
    | _, _ => lent l vs
  | _, _ => []
def noDup : List Nat → Bool
  | [] => true
  | a :: l => !l.contains a && noDup l
def putA1 (a : Arg) (v : Vl) (o : Option Vl) (e : VE) : VE := match v, a with
  | .fr _, _ => e
  | _, .bor i => e.set i o
  | _, _ => e
def putA : List Arg → List Vl → List (Option Vl) → VE → VE
  | a :: l, v :: vs, o :: os, e => putA l vs os (putA1 a v o e)
  | _, _, _, e => e
def RF.back (r : RF) (as : List Arg) (vs : List Vl) (e : VE) : R2 Vl := match r with
  | .ok v outs => .ok v (putA as vs outs e)
  | .ex x outs => .ex x (putA as vs outs e)
  | .stuck => .stuck
/-- a call -/
def callS (s : Option Sem2) (as : List Arg) : M2 Vl := fun e => match s with
  | some f => match getA e as with
    | some vs => if noDup (lent as vs) = true then (f vs).back as vs e else .stuck
    | none => .stuck
  | none => .stuck
/-- a new object, made by a call with it as the first argument -/
def RF.made (r : RF) (as : List Arg) (vs : List Vl) (e : VE) : R2 Vl := match r with
  | .ok (.fr .non) (some o :: outs) => .ok o (putA as vs outs e)
  | .ex x (_ :: outs) => .ex x (putA as vs outs e)
  | _ => .stuck
def makeS (s : Option Sem2) (c : Nat) (as : List Arg) : M2 Vl := fun e => match s with
  | some f => match getA e as with
    | some vs => if noDup (lent as vs) = true then (f (.ob c [] :: vs)).made as vs e else .stuck
    | none => .stuck
  | none => .stuck
def frzM (v : Vl) : M2 Vl := match frzd v with
  | some d => ret2 (.fr d)
  | none => stk2
def peek (a : Arg) : M2 Vl := fun e => match getA1 e a with
  | some v => .ok v e
  | none => .stuck
def isVar : CE → Option Nat
  | .var i => some i
  | _ => none
def ckObj (c : Nat) : D → Bool
  | .obj c' _ => c' == c
  | _ => false
def addX2 (C : Cx2) (o : BOp) (x y : D) : M2 Vl := match o, x with
  | .add, .obj c fs => bnd2 (guard2 (y.isObj c)) fun _ => callS (C.mt c aAdd 1) [.val (.fr (.obj c fs)), .val (.fr y)]
  | o, x => bnd2 (lift2 (pureO (binD o x y))) fun d => ret2 (.fr d)
def asBl2 : Vl → M2 Bool
  | .fr (.bl b) => ret2 b
  | _ => stk2
def eqX2 (C : Cx2) (c : Nat) (a b : D) : M2 Bool := bnd2 (guard2 (b.isObj c)) fun _ => bnd2 (noEx2 (callS (C.mt c aEq 1) [.val (.fr a), .val (.fr b)])) asBl2
def cmpX2 (C : Cx2) (o : COp) (a b : D) : M2 Bool := match o, a with
  | .eq, .obj c fs => eqX2 C c (.obj c fs) b
  | .ne, .obj c fs => bnd2 (eqX2 C c (.obj c fs) b) fun k => ret2 (!k)
  | o, a => lift2 (cmpD o a b)
def toLen : Vl → M2 Vl
  | .fr (.int n) => bnd2 (guard2 (decide (0 ≤ n) && decide (n < 2 ^ 63))) fun _ => ret2 (.fr (.int n))
  | _ => stk2
/-- built-in calls by what the arguments are; len also of what a name holds -/
def lenX2 (C : Cx2) (b : Blt) (ds : List D) : M2 Vl := match b, ds with
  | .len, [.obj c fs] => bnd2 (noEx2 (callS (C.mt c aLen 0) [.val (.fr (.obj c fs))])) toLen
  | b, ds => bnd2 (lift2 (pureO (bltD b ds))) fun d => ret2 (.fr d)
def lenV (C : Cx2) : Vl → M2 Vl
  | .fr d => lenX2 C .len [d]
  | .ls l => ret2 (.fr (.int l.length))
  | _ => stk2
def valV (kvs : List (L2.Key × Vl)) (k : L2.Key) : Option Vl := (kvs.find? fun kv => decide (kv.1 = k)).map (·.2)
def putV (kvs : List (L2.Key × Vl)) (k : L2.Key) (v : Vl) : List (L2.Key × Vl) :=
  if (kvs.any fun kv => decide (kv.1 = k)) = true then kvs.map (fun kv => if kv.1 = k then (kv.1, v) else kv) else kvs ++ [(k, v)]
def frO : Option Vl → Option D
  | some (.fr d) => some d
  | _ => none
def idxX2 (C : Cx2) (x y : D) : M2 Vl := match x with
  | .obj c fs => callS (C.mt c aItem 1) [.val (.fr (.obj c fs)), .val (.fr y)]
  | x => bnd2 (lift2 (pureO (idxD x y))) fun d => ret2 (.fr d)
def idxV (C : Cx2) (y : D) : Vl → M2 Vl
  | .fr x => idxX2 C x y
  | .ls l => match y with
    | .int i => bnd2 (lift2 (atD l i)) fun d => ret2 (.fr d)
    | _ => stk2
  | .di kvs => match keyD y with
    | some k => bnd2 (lift2 (frO (valV kvs k))) fun d => ret2 (.fr d)
    | none => stk2
  | .ob _ _ => stk2
def slcV (lo hi : Option Int) : Vl → M2 Vl
  | .fr x => bnd2 (lift2 (pureO (slcD x lo hi))) fun d => ret2 (.fr d)
  | .ls l => ret2 (.fr (.lst (cutD l lo hi)))
  | _ => stk2
def attV (C : Cx2) (f : Nat) (a : Arg) : Vl → M2 Vl
  | .fr (.obj c fs) => match (C.flds c).idxOf? f with
    | some j => bnd2 (lift2 fs[j]?) fun d => ret2 (.fr d)
    | none => noEx2 (callS (C.pr c f) [.val (.fr (.obj c fs))])
  | .ob c fs => match (C.flds c).idxOf? f with
    | some j => bnd2 (lift2 (frO fs[j]?)) fun d => ret2 (.fr d)
    | none => noEx2 (callS (C.pr c f) [a])
  | _ => stk2
def clsV : Vl → M2 Nat
  | .fr (.obj c _) => ret2 c
  | .ob c _ => ret2 c
  | _ => stk2
def clsOk2 (C : Cx2) : D → Bool
  | .obj c _ => C.cls.contains c
  | _ => true
def tyOk2 (C : Cx2) : TyN → Bool
  | .cls c => C.cls.contains c
  | _ => true
def isiX2 (C : Cx2) (ts : List TyN) (x : D) : M2 Vl := bnd2 (guard2 (clsOk2 C x && ts.all (tyOk2 C))) fun _ => bnd2 (lift2 (isTys ts x)) fun k => ret2 (.fr (.bl k))
def ginX2 (C : Cx2) (x : Nat) (neg : Bool) : D → M2 Vl
  | .str s => bnd2 (lift2 (C.gd x)) fun kvs => ret2 (.fr (.bl (if neg then !(kvs.lookup s).isSome else (kvs.lookup s).isSome)))
  | _ => stk2
def gixX2 (C : Cx2) (x : Nat) : D → M2 Vl
  | .str s => bnd2 (lift2 (C.gd x)) fun kvs => bnd2 (lift2 (kvs.lookup s)) fun d => ret2 (.fr d)
  | _ => stk2
/-- methods that change their object -/
def mutM : BMt → Bool
  | .append => true
  | .extend => true
  | .update => true
  | _ => false
def mutK : BMt → Vl → Bool
  | .append, .ls _ => true
  | .extend, .ls _ => true
  | .update, .di _ => true
  | _, _ => false
def mergeV (kvs more : List (L2.Key × Vl)) : List (L2.Key × Vl) := more.foldl (fun acc kv => putV acc kv.1 kv.2) kvs
def mutV : BMt → Vl → List Vl → Option Vl
  | .append, .ls l, [.fr d] => if decide (l.length < 16777216) then some (.ls (l ++ [d])) else none
  | .extend, .ls l, [.fr (.lst l2)] => if fitB (l.length + l2.length) then some (.ls (l ++ l2)) else none
  | .update, .di kvs, [.di more] => if fitB (kvs.length + more.length) && (frsD (more.map (·.2))).isSome then some (.di (mergeV kvs more)) else none
  | _, _, _ => none
def setV (i : Nat) (v : Vl) : M2 Unit := fun e => .ok () (e.set i (some v))
def setsV : List Nat → List Vl → M2 Unit
  | i :: is, v :: vs => bnd2 (setV i v) fun _ => setsV is vs
  | [], [] => ret2 ()
  | _, _ => stk2
/-- store at a place -/
def subV (y : D) (v : Vl) : Vl → Option Vl
  | .ls l => match y, v with
    | .int i, .fr d => (ixN l.length i).map fun j => .ls (l.set j d)
    | _, _ => none
  | .di kvs => match keyD y with
    | some k => if decide (kvs.length < 16777216) && v.isFr then some (.di (putV kvs k v)) else none
    | none => none
  | _ => none
def fldV (C : Cx2) (f : Nat) (v : Vl) : Vl → Option Vl
  | .ob c fs => match (C.flds c).idxOf? f with
    | some j => if decide (j ≤ fs.length) then some (.ob c (fs.take j ++ v :: fs.drop (j + 1))) else none
    | none => none
  | _ => none
def updV (i : Nat) (g : Vl → Option Vl) : M2 Unit := fun e => match e[i]? with
  | some (some v) => match g v with
    | some w => .ok () (e.set i (some w))
    | none => .stuck
  | _ => .stuck
def wipe2 : List Nat → M2 Unit
  | [] => ret2 ()
  | v :: vs => bnd2 (wipe2 vs) fun _ e => .ok () (e.set v none)
def noOne : CL → Bool
  | .nil => true
  | .one _ r => noOne r
  | .sta _ _ => false
/-- the names of a parallel assignment -/
def names : CTL → Option (List Nat)
  | .nil => some []
  | .cons (.nam i) r => (names r).map (i :: ·)
  | _ => none
/-- a, b = e, f -/
def parA : CT → CE → Option (List Nat × CL)
  | .tup ts, .tup es => match names ts with
    | some is => if is.length == es.len && noOne es then some (is, es) else none
    | none => none
  | _, _ => none
def frL (l : List D) : List Vl := l.map .fr
/-- the turns of a comprehension -/
def com2 (f : D → M2 (Option D)) : List D → List D → M2 (List D)
  | [], acc => ret2 acc
  | d :: l, acc => bnd2 (f d) fun o => match o with
    | some y => bnd2 (guard2 (decide (acc.length < 16777216))) fun _ => com2 f l (acc ++ [y])
    | none => com2 f l acc
def turn2 (own : List Nat) (mt : Vl → M2 Unit) (mc : M2 Bool) (me : M2 D) (d : D) : M2 (Option D) :=
  bnd2 (wipe2 own) fun _ => bnd2 (mt (.fr d)) fun _ => bnd2 mc fun k => if k = true then bnd2 me fun y => ret2 (some y) else ret2 none
/-- the own names as they were before -/
def rest2 (e0 : VE) : List Nat → VE → VE
  | [], e => e
  | v :: vs, e => rest2 e0 vs (match e0[v]? with
    | some o => e.set v o
    | none => e)
def keepFr (e0 : VE) : List Nat → Bool
  | [] => true
  | v :: vs => (match e0[v]? with
    | some (some (.fr _)) => true
    | some none => true
    | none => true
    | _ => false) && keepFr e0 vs
def comM2 (own : List Nat) (mi : M2 (List D)) (mt : Vl → M2 Unit) (mc : M2 Bool) (me : M2 D) : M2 Vl := fun e => if keepFr e own = true then
    match noEx2 (bnd2 mi fun its => com2 (turn2 own mt mc me) its []) e with
    | .ok l e' => .ok (.fr (.lst l)) (rest2 e own e')
    | _ => .stuck
  else .stuck
def tupT2 (n : Nat) (m : List D → M2 Unit) : Vl → M2 Unit
  | .fr (.tup l) => if l.length = n then m l else stk2
  | _ => stk2
def hdt2 (i j : Nat) : Vl → M2 Unit
  | .fr (.lst (x :: l)) => bnd2 (guard2 (decide (l.length < 16384))) fun _ => bnd2 (setV i (.fr x)) fun _ => setV j (.fr (.lst l))
  | _ => stk2
-- the names that a target binds
mutual
def tgsT : CT → List Nat
  | .nam i => [i]
  | .tup ts => tgsL ts
  | .sub _ _ => []
  | .hdt i j => [i, j]
  | .att _ _ => []
def tgsL : CTL → List Nat
  | .nil => []
  | .cons t r => tgsT t ++ tgsL r
end
mutual
def ev (C : Cx2) : CE → M2 Vl
  | .con d => ret2 (.fr d)
  | .var i => takeV i
  | .frz i => frzV i
  | .glo x => bnd2 (lift2 (C.gvs.lookup x)) fun d => ret2 (.fr d)
  | .neg e => bnd2 (bnd2 (ev C e) asFr) fun x => match x with
    | .int i => ret2 (.fr (.int (-i)))
    | _ => stk2
  | .bin o a b => bnd2 (bnd2 (ev C a) asFr) fun x => bnd2 (bnd2 (ev C b) asFr) fun y => addX2 C o x y
  | .cmp o a b => bnd2 (bnd2 (ev C a) asFr) fun x => bnd2 (bnd2 (ev C b) asFr) fun y => bnd2 (cmpX2 C o x y) fun k => ret2 (.fr (.bl k))
  | .chn o p a b c => bnd2 (bnd2 (ev C a) asFr) fun x => bnd2 (bnd2 (ev C b) asFr) fun y => bnd2 (lift2 (cmpD o x y)) fun k => if k = true then bnd2 (bnd2 (ev C c) asFr) fun z => bnd2 (lift2 (cmpD p y z)) fun k2 => ret2 (.fr (.bl k2)) else ret2 (.fr (.bl false))
  | .and a b => bnd2 (bnd2 (ev C a) asFr) fun x => bnd2 (lift2 (pureO (truD x))) fun k => if k = true then ev C b else ret2 (.fr x)
  | .or a b => bnd2 (bnd2 (ev C a) asFr) fun x => bnd2 (lift2 (pureO (truD x))) fun k => if k = true then ret2 (.fr x) else ev C b
  | .not a => bnd2 (bnd2 (ev C a) asFr) fun x => bnd2 (lift2 (pureO (truD x))) fun k => ret2 (.fr (.bl (!k)))
  | .ite c a b => bnd2 (bnd2 (ev C c) asFr) fun x => bnd2 (lift2 (pureO (truD x))) fun k => if k = true then ev C a else ev C b
  | .tup es => bnd2 (evD C es) fun vs => bnd2 (guard2 (fitB vs.length)) fun _ => ret2 (.fr (.tup vs))
  | .lst es => bnd2 (evD C es) fun vs => bnd2 (guard2 (fitB vs.length)) fun _ => ret2 (.fr (.lst vs))
  | .lsc es => bnd2 (evD C es) fun vs => bnd2 (guard2 (fitB vs.length)) fun _ => ret2 (.ls vs)
  | .dcc ks es => bnd2 (guard2 (ks.length == es.len && decide (ks.length ≤ 15) && !ks.isEmpty && decide ks.Nodup && noOne es)) fun _ => bnd2 (evW C es) fun vs => ret2 (.di (ks.zip vs))
  | .gin x a neg => bnd2 (bnd2 (ev C a) asFr) (ginX2 C x neg)
  | .gix x a => bnd2 (bnd2 (ev C a) asFr) (gixX2 C x)
  | .idx a i => bnd2 (argV (isVar a) (ev C a)) fun g => bnd2 (bnd2 (ev C i) asFr) fun y => bnd2 (peek g) (idxV C y)
  | .slc a lo hi => bnd2 (argV (isVar a) (ev C a)) fun g => bnd2 (evO2 C lo) fun l => bnd2 (evO2 C hi) fun u => bnd2 (peek g) (slcV l u)
  | .rev a => bnd2 (bnd2 (ev C a) asFr) fun x => match x with
    | .lst l => ret2 (.fr (.lst l.reverse))
    | _ => stk2
  | .att e f => bnd2 (argV (isVar e) (ev C e)) fun g => bnd2 (peek g) (attV C f g)
  | .cal f es => bnd2 (evA C es) fun as => callS (C.fn f as.length) as
  | .mak c es => bnd2 (evA C es) fun as => bnd2 (makeS (C.ini c as.length) c as) frzM
  | .mkc c es => bnd2 (evA C es) fun as => makeS (C.ini c as.length) c as
  | .clm f c es => bnd2 (evA C es) fun as => callS (C.fn f (as.length + 1)) (.val (.fr (.cls c)) :: as)
  | .mkv i c es => bnd2 (bnd2 (takeV i) asFr) fun x => match x with
    | .cls c' => if c' = c then bnd2 (evA C es) fun as => bnd2 (makeS (C.ini c as.length) c as) frzM else stk2
    | _ => stk2
  | .mth o m es => bnd2 (argV (isVar o) (ev C o)) fun g => bnd2 (bnd2 (peek g) clsV) fun c => bnd2 (guard2 (C.hasM c m)) fun _ => bnd2 (evA C es) fun as => callS (C.mt c m as.length) (g :: as)
  | .blt b es => match b, es with
    | .len, .one e .nil => bnd2 (argV (isVar e) (ev C e)) fun g => bnd2 (peek g) (lenV C)
    | b, es => bnd2 (evD C es) fun vs => lenX2 C b vs
  | .bmt m o es => if mutM m = true then match isVar o with
    | some i => bnd2 (peek (.bor i)) fun v => bnd2 (guard2 (mutK m v)) fun _ => bnd2 (evW C es) fun ws => bnd2 (updV i fun v => mutV m v ws) fun _ => ret2 (.fr .non)
    | none => stk2
    else bnd2 (bnd2 (ev C o) asFr) fun x => bnd2 (lift2 (pureO (kindD m x))) fun _ => bnd2 (evD C es) fun vs => bnd2 (lift2 (pureO (bmtD m x vs))) fun d => ret2 (.fr d)
  | .isi e ts => bnd2 (bnd2 (ev C e) asFr) (isiX2 C ts)
  | .com own t i c e => if ((tgsT t).all fun x => own.contains x) = true then comM2 own (evI2 C i) (as2 C t) (evT2 C c) (bnd2 (ev C e) asFr) else stk2
  | .fst es => bnd2 (evF2 C es Str.empty) fun s => ret2 (.fr (.str s))
  | .hol => stk2
  | .dnw => ret2 (.di [])
def argV (o : Option Nat) (m : M2 Vl) : M2 Arg := match o with
  | some i => fun e => match e[i]? with
    | some (some _) => .ok (.bor i) e
    | _ => .stuck
  | none => bnd2 m fun v => ret2 (.val v)
/-- items that are frozen -/
def evD (C : Cx2) : CL → M2 (List D)
  | .nil => ret2 []
  | .one e r => bnd2 (bnd2 (ev C e) asFr) fun x => bnd2 (evD C r) fun xs => ret2 (x :: xs)
  | .sta e r => bnd2 (bnd2 (ev C e) asFr) fun x => match x with
    | .lst l => bnd2 (evD C r) fun xs => ret2 (l ++ xs)
    | .tup l => bnd2 (evD C r) fun xs => ret2 (l ++ xs)
    | _ => stk2
/-- items of any kind -/
def evW (C : Cx2) : CL → M2 (List Vl)
  | .nil => ret2 []
  | .one e r => bnd2 (ev C e) fun x => bnd2 (evW C r) fun xs => ret2 (x :: xs)
  | .sta _ _ => stk2
/-- arguments of a call -/
def evA (C : Cx2) : CL → M2 (List Arg)
  | .nil => ret2 []
  | .one e r => bnd2 (argV (isVar e) (ev C e)) fun x => bnd2 (evA C r) fun xs => ret2 (x :: xs)
  | .sta e r => bnd2 (bnd2 (ev C e) asFr) fun x => match x with
    | .lst l => bnd2 (evA C r) fun xs => ret2 ((l.map fun d => .val (.fr d)) ++ xs)
    | .tup l => bnd2 (evA C r) fun xs => ret2 ((l.map fun d => .val (.fr d)) ++ xs)
    | _ => stk2
def evO2 (C : Cx2) : CO → M2 (Option Int)
  | .no => ret2 none
  | .so e => bnd2 (bnd2 (ev C e) asFr) fun x => lift2 (pureO (partD x))
def evT2 (C : Cx2) : CO → M2 Bool
  | .no => ret2 true
  | .so e => bnd2 (bnd2 (ev C e) asFr) fun x => lift2 (pureO (truD x))
def evI2 (C : Cx2) : CI → M2 (List D)
  | .seq e => bnd2 (bnd2 (ev C e) asFr) fun x => lift2 (pureO (itsD x))
  | .rng a => bnd2 (bnd2 (ev C a) asFr) fun x => lift2 (pureO (rngM x))
  | .rng2 a b => bnd2 (bnd2 (ev C a) asFr) fun x => bnd2 (bnd2 (ev C b) asFr) fun y => lift2 (pureO (rng2M x y))
  | .rng3 a b c => bnd2 (bnd2 (ev C a) asFr) fun x => bnd2 (bnd2 (ev C b) asFr) fun y => lift2 (pureO (rng3M c x y))
  | .enu e => bnd2 (bnd2 (ev C e) asFr) fun x => lift2 (pureO (enuM x))
  | .zip a b => bnd2 (bnd2 (ev C a) asFr) fun x => bnd2 (bnd2 (ev C b) asFr) fun y => lift2 (pureO (zipM x y))
/-- a store -/
def as2 (C : Cx2) : CT → Vl → M2 Unit
  | .nam i, v => setV i v
  | .tup ts, v => tupT2 ts.len (as2s C ts) v
  | .sub a i, v => match isVar a with
    | some j => bnd2 (peek (.bor j)) fun _ => bnd2 (bnd2 (ev C i) asFr) fun y => updV j (subV y v)
    | none => stk2
  | .hdt i j, v => hdt2 i j v
  | .att a f, v => match isVar a with
    | some j => updV j (fldV C f v)
    | none => stk2
def as2s (C : Cx2) : CTL → List D → M2 Unit
  | .nil, ds => match ds with
    | [] => ret2 ()
    | _ => stk2
  | .cons t r, ds => match ds with
    | d :: l => bnd2 (as2 C t (.fr d)) fun _ => as2s C r l
    | _ => stk2
def evF2 (C : Cx2) : CL → Str → M2 Str
  | .nil, acc => ret2 acc
  | .one e r, acc => bnd2 (bnd2 (ev C e) asFr) fun x => bnd2 (lift2 (pureO (fmtD x))) fun s => bnd2 (guard2 (fitB (acc.length + s.length))) fun _ => evF2 C r (acc ++ s)
  | .sta _ _, _ => stk2
end
/-! ### statements -/
inductive Fl2 where | nx | ret (v : Vl) | brk | cnt
def seq2 (m : M2 Fl2) (f : M2 Fl2) : M2 Fl2 := bnd2 m fun r => match r with
  | .nx => f
  | r => ret2 r
def trn2 (m : M2 Fl2) (f : M2 Fl2) : M2 Fl2 := bnd2 m fun r => match r with
  | .nx => f
  | .cnt => f
  | .brk => ret2 .nx
  | r => ret2 r
def for2 (asg : Vl → M2 Unit) (body : M2 Fl2) : List D → M2 Fl2
  | [] => ret2 .nx
  | d :: l => bnd2 (noEx2 (asg (.fr d))) fun _ => trn2 body (for2 asg body l)
def whl2 (c : M2 Bool) (body : M2 Fl2) : Nat → M2 Fl2
  | 0 => stk2
  | n + 1 => bnd2 c fun k => if k = true then trn2 body (whl2 c body n) else ret2 .nx
def augD (o : BOp) (x y : D) : Option D := match x, y with
  | .int a, .int b => pureO (binD o (.int a) (.int b))
  | _, _ => none
mutual
def es2 (C : Cx2) : CS → M2 Fl2
  | .asg t e => match parA t e with
    | some (is, es) => bnd2 (evW C es) fun vs => bnd2 (guard2 (fitB vs.length)) fun _ => bnd2 (setsV is vs) fun _ => ret2 .nx
    | none => bnd2 (ev C e) fun v => bnd2 (noEx2 (as2 C t v)) fun _ => ret2 .nx
  | .aug i o e => bnd2 (bnd2 (takeV i) asFr) fun x => bnd2 (bnd2 (ev C e) asFr) fun y => bnd2 (lift2 (augD o x y)) fun z => bnd2 (setV i (.fr z)) fun _ => ret2 .nx
  | .exp e => bnd2 (ev C e) fun _ => ret2 .nx
  | .ret e => bnd2 (ev C e) fun v => ret2 (.ret v)
  | .retN => ret2 (.ret (.fr .non))
  | .ite c a b => bnd2 (bnd2 (bnd2 (ev C c) asFr) fun x => lift2 (pureO (truD x))) fun k => if k = true then ess2 C a else ess2 C b
  | .for_ t i b => bnd2 (evI2 C i) fun its => for2 (as2 C t) (ess2 C b) its
  | .whl c b => whl2 (bnd2 (bnd2 (ev C c) asFr) fun x => lift2 (pureO (truD x))) (ess2 C b) C.fuel
  | .brk => ret2 .brk
  | .cnt => ret2 .cnt
  | .pas => ret2 .nx
  | .bad => stk2
  | .rai c e => bnd2 (bnd2 (ev C e) asFr) fun d => thw2 ⟨c, d⟩
def ess2 (C : Cx2) : CSs → M2 Fl2
  | .nil => ret2 .nx
  | .cons s r => seq2 (es2 C s) (ess2 C r)
end
-- the names that a code binds
mutual
def tgs : CS → List Nat
  | .asg t _ => tgsT t
  | .aug i _ _ => [i]
  | .ite _ a b => tgss a ++ tgss b
  | .for_ t _ b => tgsT t ++ tgss b
  | .whl _ b => tgss b
  | _ => []
def tgss : CSs → List Nat
  | .nil => []
  | .cons s r => tgs s ++ tgss r
end
/-- no mutable argument's name is bound anew -/
def rbOk (ts : List Nat) : Nat → List Vl → Bool
  | _, [] => true
  | k, v :: vs => (v.isFr || !ts.contains k) && rbOk ts (k + 1) vs
def out1 (v : Vl) (o : Option Vl) : Option Vl := match v with
  | .fr _ => none
  | _ => o
def outs : List Vl → VE → List (Option Vl)
  | v :: vs, o :: e => out1 v o :: outs vs e
  | _, _ => []
def start2 (n : Nat) (vs : List Vl) : VE := vs.map some ++ List.replicate (n - vs.length) none
def fin2 (vs : List Vl) : R2 Fl2 → RF
  | .ok .nx e => .ok (.fr .non) (outs vs e)
  | .ok (.ret v) e => .ok v (outs vs e)
  | .ex x e => .ex x (outs vs e)
  | _ => .stuck
def Def.sem2 (d : Def) (C : Cx2) : Sem2 := fun vs => if vs.length = d.np then if rbOk (tgss d.body) 0 vs = true then fin2 vs (ess2 C d.body (start2 d.ns vs)) else .stuck else .stuck
end SX
end
section
set_option Elab.async false
set_option linter.all false
set_option maxRecDepth 100000
set_option maxHeartbeats 4000000
/-! VS2: who owns which objects; a step and what it may touch. -/
namespace SX
open PySem
mutual
inductive Own (h : LH) : Vl → D → List Nat → Prop
  | fr (d : D) : Own h (.fr d) d []
  | ls (n : Nat) (l : List D) : h[n]? = some (some (.lst l)) → Own h (.ls l) (.ref n) [n]
  | di (n : Nat) (kvs : List (L2.Key × Vl)) (kds : List (L2.Key × D)) (S : List Nat) : h[n]? = some (some (.dic kds)) → OwnK h kvs kds S → n ∉ S → Own h (.di kvs) (.ref n) (n :: S)
  | ob (n c : Nat) (vs : List Vl) (ds : List D) (S : List Nat) : h[n]? = some (some (.obj c ds)) → OwnL h vs ds S → n ∉ S → Own h (.ob c vs) (.ref n) (n :: S)
inductive OwnL (h : LH) : List Vl → List D → List Nat → Prop
  | nil : OwnL h [] [] []
  | cons {v : Vl} {d : D} {S T : List Nat} {vs : List Vl} {ds : List D} : Own h v d S → OwnL h vs ds T → (∀ n ∈ S, n ∉ T) → OwnL h (v :: vs) (d :: ds) (S ++ T)
inductive OwnK (h : LH) : List (L2.Key × Vl) → List (L2.Key × D) → List Nat → Prop
  | nil : OwnK h [] [] []
  | cons {k : L2.Key} {v : Vl} {d : D} {S T : List Nat} {vs : List (L2.Key × Vl)} {ds : List (L2.Key × D)} : Own h v d S → OwnK h vs ds T → (∀ n ∈ S, n ∉ T) → OwnK h ((k, v) :: vs) ((k, d) :: ds) (S ++ T)
end
mutual
theorem Own.fram {h h' : LH} : {v : Vl} → {d : D} → {S : List Nat} → Own h v d S → (∀ n ∈ S, h'[n]? = h[n]?) → Own h' v d S
  | _, _, _, .fr d, _ => .fr d
  | _, _, _, .ls n l e, f => .ls n l ((f n (List.mem_singleton.mpr rfl)).trans e)
  | _, _, _, .di n kvs kds S e o q, f => .di n kvs kds S ((f n List.mem_cons_self).trans e) (OwnK.fram o fun m hm => f m (List.mem_cons_of_mem _ hm)) q
  | _, _, _, .ob n c vs ds S e o q, f => .ob n c vs ds S ((f n List.mem_cons_self).trans e) (OwnL.fram o fun m hm => f m (List.mem_cons_of_mem _ hm)) q
theorem OwnL.fram {h h' : LH} : {v : List Vl} → {d : List D} → {S : List Nat} → OwnL h v d S → (∀ n ∈ S, h'[n]? = h[n]?) → OwnL h' v d S
  | _, _, _, .nil, _ => .nil
  | _, _, _, .cons o r q, f => .cons (Own.fram o fun n hn => f n (List.mem_append_left _ hn)) (OwnL.fram r fun n hn => f n (List.mem_append_right _ hn)) q
theorem OwnK.fram {h h' : LH} : {v : List (L2.Key × Vl)} → {d : List (L2.Key × D)} → {S : List Nat} → OwnK h v d S → (∀ n ∈ S, h'[n]? = h[n]?) → OwnK h' v d S
  | _, _, _, .nil, _ => .nil
  | _, _, _, .cons o r q, f => .cons (Own.fram o fun n hn => f n (List.mem_append_left _ hn)) (OwnK.fram r fun n hn => f n (List.mem_append_right _ hn)) q
end
theorem lt_of_some {h : LH} {n : Nat} {x : Option Cell} (e : h[n]? = some x) : n < h.length := by
  rcases List.getElem?_eq_some_iff.mp e with ⟨q, _⟩
  exact q
mutual
theorem Own.lt {h : LH} : {v : Vl} → {d : D} → {S : List Nat} → Own h v d S → ∀ n ∈ S, n < h.length
  | _, _, _, .fr d, n, hn => by cases hn
  | _, _, _, .ls m l e, n, hn => by rw [List.mem_singleton.mp hn]; exact lt_of_some e
  | _, _, _, .di m kvs kds S e o q, n, hn => by
    rcases List.mem_cons.mp hn with z | z
    · rw [z]; exact lt_of_some e
    · exact OwnK.lt o n z
  | _, _, _, .ob m c vs ds S e o q, n, hn => by
    rcases List.mem_cons.mp hn with z | z
    · rw [z]; exact lt_of_some e
    · exact OwnL.lt o n z
theorem OwnL.lt {h : LH} : {v : List Vl} → {d : List D} → {S : List Nat} → OwnL h v d S → ∀ n ∈ S, n < h.length
  | _, _, _, .nil, n, hn => by cases hn
  | _, _, _, .cons o r q, n, hn => by
    rcases List.mem_append.mp hn with z | z
    · exact Own.lt o n z
    · exact OwnL.lt r n z
theorem OwnK.lt {h : LH} : {v : List (L2.Key × Vl)} → {d : List (L2.Key × D)} → {S : List Nat} → OwnK h v d S → ∀ n ∈ S, n < h.length
  | _, _, _, .nil, n, hn => by cases hn
  | _, _, _, .cons o r q, n, hn => by
    rcases List.mem_append.mp hn with z | z
    · exact Own.lt o n z
    · exact OwnK.lt r n z
end
theorem Own.frz {h : LH} {d d' : D} {S : List Nat} (o : Own h (.fr d) d' S) : d' = d ∧ S = [] := by
  cases o
  exact ⟨rfl, rfl⟩
theorem OwnL.length {h : LH} : {v : List Vl} → {d : List D} → {S : List Nat} → OwnL h v d S → v.length = d.length
  | _, _, _, .nil => rfl
  | _, _, _, .cons _ r _ => congrArg (· + 1) (OwnL.length r)
theorem OwnL.frs {h : LH} : {v : List Vl} → {d : List D} → {S : List Nat} → {l : List D} → OwnL h v d S → frsD v = some l → d = l ∧ S = []
  | _, _, _, l, .nil, e => by cases e; exact ⟨rfl, rfl⟩
  | _, _, _, l, .cons (v := v) (vs := vs) o r _, e => by
    cases v with
    | fr x =>
      obtain ⟨rfl, rfl⟩ := o.frz
      unfold frsD at e
      cases q : frsD vs with
      | none => rw [q] at e; cases e
      | some l' =>
        rw [q] at e
        obtain ⟨rfl, rfl⟩ := OwnL.frs r q
        cases e
        exact ⟨rfl, rfl⟩
    | ls _ => cases e
    | di _ => cases e
    | ob _ _ => cases e
theorem OwnK.frs {h : LH} : {v : List (L2.Key × Vl)} → {d : List (L2.Key × D)} → {S : List Nat} → {l : List D} → OwnK h v d S → frsD (v.map (·.2)) = some l → d.map (·.2) = l ∧ d.map (·.1) = v.map (·.1) ∧ S = []
  | _, _, _, l, .nil, e => by cases e; exact ⟨rfl, rfl, rfl⟩
  | _, _, _, l, .cons (v := v) (vs := vs) o r _, e => by
    rw [List.map_cons] at e
    cases v with
    | fr x =>
      obtain ⟨rfl, rfl⟩ := o.frz
      unfold frsD at e
      cases q : frsD (vs.map (·.2)) with
      | none => rw [q] at e; cases e
      | some l' =>
        rw [q] at e
        obtain ⟨rfl, e2, rfl⟩ := OwnK.frs r q
        cases e
        exact ⟨rfl, by rw [List.map_cons, List.map_cons, e2], rfl⟩
    | ls _ => cases e
    | di _ => cases e
    | ob _ _ => cases e
theorem OwnL.frL {h : LH} : ∀ l : List D, OwnL h (frL l) l []
  | [] => .nil
  | d :: l => .cons (.fr d) (OwnL.frL l) (by simp)
/-- names and the objects they own -/
structure EOwn (h : LH) (e2 : VE) (env : Env) (F : Nat → List Nat) (X : List Nat) : Prop where
  len : e2.length = env.length
  lt : ∀ i n, n ∈ F i → n < h.length
  own : ∀ i v, i ∉ X → e2[i]? = some (some v) → ∃ d, env[i]? = some (some d) ∧ Own h v d (F i)
  dis : ∀ i j, i ≠ j → ∀ n, n ∈ F i → n ∉ F j
/-- from one heap to a later one: what may be touched, what may be owned then -/
structure Step (h : LH) (U : Nat → Prop) (h' : LH) (U' : Nat → Prop) : Prop where
  len : h.length ≤ h'.length
  fr : ∀ n, n < h.length → ¬ U n → h'[n]? = h[n]?
  sub : ∀ n, U' n → U n ∨ h.length ≤ n
def UE (F : Nat → List Nat) : Nat → Prop := fun n => ∃ i, n ∈ F i
theorem Step.refl {h : LH} {U U' : Nat → Prop} (s : ∀ n, U' n → U n) : Step h U h U' := ⟨Nat.le_refl _, fun _ _ _ => rfl, fun n u => .inl (s n u)⟩
theorem Step.trans {h h1 h2 : LH} {U U1 U2 : Nat → Prop} (a : Step h U h1 U1) (b : Step h1 U1 h2 U2) : Step h U h2 U2 where
  len := Nat.le_trans a.len b.len
  fr := fun n hn u => by
    rw [b.fr n (Nat.lt_of_lt_of_le hn a.len) (fun u1 => by
      rcases a.sub n u1 with z | z
      · exact u z
      · omega), a.fr n hn u]
  sub := fun n u => by
    rcases b.sub n u with z | z
    · exact a.sub n z
    · exact .inr (Nat.le_trans a.len z)
theorem Step.mono {h h1 : LH} {U U1 V V1 : Nat → Prop} (a : Step h U h1 U1) (u : ∀ n, U n → V n) (v : ∀ n, V1 n → U1 n) : Step h V h1 V1 where
  len := a.len
  fr := fun n hn q => a.fr n hn fun z => q (u n z)
  sub := fun n q => (a.sub n (v n q)).imp (u n) id
def upF (F : Nat → List Nat) (i : Nat) (S : List Nat) : Nat → List Nat := fun j => if j = i then S else F j
theorem upF_same {F : Nat → List Nat} {i : Nat} {S : List Nat} : upF F i S i = S := if_pos rfl
theorem upF_ne {F : Nat → List Nat} {i j : Nat} {S : List Nat} (h : j ≠ i) : upF F i S j = F j := if_neg h
theorem EOwn.fram {h h' : LH} {e2 : VE} {env : Env} {F : Nat → List Nat} {X : List Nat} (o : EOwn h e2 env F X) (hl : h.length ≤ h'.length) (f : ∀ i n, n ∈ F i → h'[n]? = h[n]?) : EOwn h' e2 env F X where
  len := o.len
  lt := fun i n hn => Nat.lt_of_lt_of_le (o.lt i n hn) hl
  own := fun i v hi e => by
    obtain ⟨d, e1, o1⟩ := o.own i v hi e
    exact ⟨d, e1, o1.fram fun n hn => f i n hn⟩
  dis := o.dis
/-- one name's value is exchanged -/
theorem EOwn.put {h : LH} {e2 : VE} {env : Env} {F : Nat → List Nat} {X : List Nat} {i : Nat} {o : Option Vl} {S : List Nat} (w : EOwn h e2 env F (i :: X)) (hv : ∀ v, o = some v → ∃ d, env[i]? = some (some d) ∧ Own h v d S) (hl : ∀ n ∈ S, n < h.length) (hd : ∀ n ∈ S, ∀ j, j ≠ i → n ∉ F j) : EOwn h (e2.set i o) env (upF F i S) X where
  len := by rw [List.length_set]; exact w.len
  lt := fun j n hn => by
    by_cases q : j = i
    · rw [q, upF_same] at hn; exact hl n hn
    · rw [upF_ne q] at hn; exact w.lt j n hn
  own := fun j v hj e => by
    by_cases q : j = i
    · subst q
      rw [upF_same]
      rw [List.getElem?_set] at e
      simp only [ite_true] at e
      split at e
      · exact hv v (by simpa using e)
      · cases e
    · rw [upF_ne q]
      rw [List.getElem?_set_ne (fun z => q z.symm)] at e
      exact w.own j v (by simp [q, hj]) e
  dis := fun a b hab n hn hb => by
    by_cases q : a = i
    · subst q
      rw [upF_same] at hn
      rw [upF_ne (fun z => hab z.symm)] at hb
      exact hd n hn b (fun z => hab z.symm) hb
    · rw [upF_ne q] at hn
      by_cases r : b = i
      · subst r
        rw [upF_same] at hb
        exact hd n hb a q hn
      · rw [upF_ne r] at hb
        exact w.dis a b hab n hn hb
theorem EOwn.more {h : LH} {e2 : VE} {env : Env} {F : Nat → List Nat} {X Y : List Nat} (w : EOwn h e2 env F X) (s : ∀ i ∈ X, i ∈ Y) : EOwn h e2 env F Y := ⟨w.len, w.lt, fun i v hi e => w.own i v (fun z => hi (s i z)) e, w.dis⟩
/-- a name is bound anew, on both sides -/
theorem EOwn.bind {h : LH} {e2 : VE} {env : Env} {F : Nat → List Nat} {X : List Nat} {i : Nat} {v : Vl} {d : D} {S : List Nat} (w : EOwn h e2 env F X) (hv : Own h v d S) (hd : ∀ n ∈ S, ∀ j, n ∉ F j) : EOwn h (e2.set i (some v)) (env.set i (some d)) (upF F i S) X where
  len := by rw [List.length_set, List.length_set]; exact w.len
  lt := fun j n hn => by
    by_cases q : j = i
    · rw [q, upF_same] at hn; exact hv.lt n hn
    · rw [upF_ne q] at hn; exact w.lt j n hn
  own := fun j u hj e => by
    by_cases q : j = i
    · subst q
      rw [upF_same]
      rw [List.getElem?_set] at e ⊢
      simp only [ite_true] at e ⊢
      split at e
      · rename_i hlt
        cases e
        rw [if_pos (by rw [← w.len]; exact hlt)]
        exact ⟨d, rfl, hv⟩
      · cases e
    · rw [upF_ne q]
      rw [List.getElem?_set_ne (fun z => q z.symm)] at e ⊢
      exact w.own j u hj e
  dis := fun a b hab n hn hb => by
    by_cases q : a = i
    · subst q
      rw [upF_same] at hn
      rw [upF_ne (fun z => hab z.symm)] at hb
      exact hd n hn b hb
    · rw [upF_ne q] at hn
      by_cases r : b = i
      · subst r
        rw [upF_same] at hb
        exact hd n hb a hn
      · rw [upF_ne r] at hb
        exact w.dis a b hab n hn hb
theorem UE_up {F : Nat → List Nat} {i : Nat} {S : List Nat} {n : Nat} (u : UE (upF F i S) n) : n ∈ S ∨ UE F n := by
  obtain ⟨j, hj⟩ := u
  by_cases q : j = i
  · rw [q, upF_same] at hj; exact .inl hj
  · rw [upF_ne q] at hj; exact .inr ⟨j, hj⟩
end SX
end
section
set_option Elab.async false
set_option linter.all false
set_option maxRecDepth 100000
set_option maxHeartbeats 4000000
/-! VS3: what one side's run says of the other's; calls. -/
namespace SX
open PySem
def RelE {α β : Type} (h : LH) (U : Nat → Prop) (env : Env) (R : LH → α → β → List Nat → Prop) : R2 α → Res β → Prop
  | .ok a e2, r => ∃ b h' S F, r = .ok b h' ∧ R h' a b S ∧ EOwn h' e2 env F [] ∧ (∀ n ∈ S, ∀ i, n ∉ F i) ∧ (∀ n ∈ S, n < h'.length) ∧ Step h U h' (fun n => n ∈ S ∨ UE F n)
  | .ex x e2, r => ∃ h' F, r = .ex x h' ∧ EOwn h' e2 env F [] ∧ Step h U h' (UE F)
  | .stuck, _ => True
def SimM {α β : Type} (m2 : M2 α) (m : Env → EM β) (R : LH → α → β → List Nat → Prop) : Prop := ∀ h e2 env F, EOwn h e2 env F [] → RelE h (UE F) env R (m2 e2) (m env h)
def RP {α : Type} : LH → α → α → List Nat → Prop := fun _ a b S => a = b ∧ S = []
abbrev SimP {α : Type} (m2 : M2 α) (m : Env → EM α) : Prop := SimM m2 m RP
abbrev SimV (m2 : M2 Vl) (m : Env → EM D) : Prop := SimM m2 m Own
section
variable {α β γ δ : Type} {h : LH} {U : Nat → Prop} {env : Env} {R : LH → α → β → List Nat → Prop} {R' : LH → γ → δ → List Nat → Prop}
theorem RelE.after {h1 : LH} {U1 : Nat → Prop} (s : Step h U h1 U1) {r2 : R2 α} {r : Res β} (p : RelE h1 U1 env R r2 r) : RelE h U env R r2 r := by
  cases r2 with
  | stuck => trivial
  | ok a e2 =>
    obtain ⟨b, h', S, F, e, q1, q2, q3, q4, q5⟩ := p
    exact ⟨b, h', S, F, e, q1, q2, q3, q4, s.trans q5⟩
  | ex x e2 =>
    obtain ⟨h', F, e, q2, q5⟩ := p
    exact ⟨h', F, e, q2, s.trans q5⟩
theorem RelE.mono {U' : Nat → Prop} {r2 : R2 α} {r : Res β} (p : RelE h U env R r2 r) (u : ∀ n, U n → U' n) : RelE h U' env R r2 r := p.after (Step.refl u)
theorem RelE.imp {R1 : LH → α → β → List Nat → Prop} {r2 : R2 α} {r : Res β} (p : RelE h U env R r2 r) (u : ∀ h a b S, R h a b S → R1 h a b S) : RelE h U env R1 r2 r := by
  cases r2 with
  | stuck => trivial
  | ok a e2 =>
    obtain ⟨b, h', S, F, e, q1, q2, q3, q4, q5⟩ := p
    exact ⟨b, h', S, F, e, u _ _ _ _ q1, q2, q3, q4, q5⟩
  | ex x e2 => exact p
theorem RelE.bind {r2 : R2 α} {m : EM β} {f : α → M2 γ} {g : β → EM δ} (p : RelE h U env R r2 (m h)) (k : ∀ a b h' S F e2, R h' a b S → EOwn h' e2 env F [] → (∀ n ∈ S, ∀ i, n ∉ F i) → (∀ n ∈ S, n < h'.length) → RelE h' (fun n => n ∈ S ∨ UE F n) env R' (f a e2) (g b h')) : RelE h U env R' (r2.bnd f) (bnd m g h) := by
  unfold SX.bnd
  cases r2 with
  | stuck => trivial
  | ok a e2 =>
    obtain ⟨b, h', S, F, e, q1, q2, q3, q4, q5⟩ := p
    rw [e]
    exact (k a b h' S F e2 q1 q2 q3 q4).after q5
  | ex x e2 =>
    obtain ⟨h', F, e, q2, q5⟩ := p
    rw [e]
    exact ⟨h', F, rfl, q2, q5⟩
theorem RelE.ret {a : α} {b : β} {e2 : VE} {S : List Nat} {F : Nat → List Nat} (r : R h a b S) (w : EOwn h e2 env F []) (d : ∀ n ∈ S, ∀ i, n ∉ F i) (l : ∀ n ∈ S, n < h.length) (u : ∀ n, (n ∈ S ∨ UE F n) → U n) : RelE h U env R (.ok a e2) (.ok b h) := ⟨b, h, S, F, rfl, r, w, d, l, Step.refl u⟩
theorem SimM.bind {m2 : M2 α} {m : Env → EM β} {f : α → M2 γ} {g : β → Env → EM δ} (p : SimM m2 m R) (k : ∀ a b h S F e2 env, R h a b S → EOwn h e2 env F [] → (∀ n ∈ S, ∀ i, n ∉ F i) → (∀ n ∈ S, n < h.length) → RelE h (fun n => n ∈ S ∨ UE F n) env R' (f a e2) (g b env h)) : SimM (bnd2 m2 f) (fun env => bnd (m env) fun b => g b env) R' := fun h e2 env F w =>
  (p h e2 env F w).bind fun a b h' S F' e2' r w' d l => k a b h' S F' e2' env r w' d l
theorem SimP.bind {m2 : M2 α} {m : Env → EM α} {f : α → M2 γ} {g : α → Env → EM δ} (p : SimP m2 m) (k : ∀ a, SimM (f a) (g a) R') : SimM (bnd2 m2 f) (fun env => bnd (m env) fun b => g b env) R' :=
  SimM.bind p fun a b h S F e2 env r w d l => by
    obtain ⟨rfl, rfl⟩ := r
    exact (k a h e2 env F w).mono fun n u => .inr u
theorem SimM.pend {m2 : M2 γ} {m : Env → EM δ} (q : SimM m2 m R') {h : LH} {e2 : VE} {env : Env} {F : Nat → List Nat} (w : EOwn h e2 env F []) {S : List Nat} (hS : ∀ n ∈ S, ∀ i, n ∉ F i) (hl : ∀ n ∈ S, n < h.length) :
    RelE h (fun n => n ∈ S ∨ UE F n) env (fun h' a b S' => ∃ T, S' = S ++ T ∧ R' h' a b T ∧ (∀ n ∈ S, n ∉ T) ∧ (∀ n ∈ T, n < h'.length) ∧ ∀ n ∈ S, h'[n]? = h[n]?) (m2 e2) (m env h) := by
  have p := q h e2 env F w
  generalize m2 e2 = r2 at p
  cases r2 with
  | stuck => trivial
  | ok a e2 =>
    obtain ⟨b, h', T, F', e, q1, q2, q3, q4, q5⟩ := p
    have hk : ∀ n ∈ S, h'[n]? = h[n]? := fun n hn => q5.fr n (hl n hn) fun ⟨i, hi⟩ => hS n hn i hi
    have hd : ∀ n ∈ S, ¬ (n ∈ T ∨ UE F' n) := fun n hn z => by
      rcases q5.sub n z with ⟨i, hi⟩ | z
      · exact hS n hn i hi
      · have := hl n hn; omega
    refine ⟨b, h', S ++ T, F', e, ⟨T, rfl, q1, fun n hn z => hd n hn (.inl z), q4, hk⟩, q2, fun n hn i hi => ?_, fun n hn => ?_, ⟨q5.len, fun n hn u => q5.fr n hn fun z => u (.inr z), fun n u => ?_⟩⟩
    · rcases List.mem_append.mp hn with z | z
      · exact hd n z (.inr ⟨i, hi⟩)
      · exact q3 n z i hi
    · rcases List.mem_append.mp hn with z | z
      · exact Nat.lt_of_lt_of_le (hl n z) q5.len
      · exact q4 n z
    · rcases u with u | u
      · rcases List.mem_append.mp u with z | z
        · exact .inl (.inl z)
        · exact (q5.sub n (.inl z)).imp .inr id
      · exact (q5.sub n (.inr u)).imp .inr id
  | ex x e2 =>
    obtain ⟨h', F', e, q2, q5⟩ := p
    exact ⟨h', F', e, q2, q5.mono (fun n u => .inr u) fun n u => u⟩
end
theorem SimP.ret {α : Type} (a : α) : SimP (ret2 a) (fun _ => ret a) := fun h e2 env F w => RelE.ret (S := []) ⟨rfl, rfl⟩ w (fun n hn => by cases hn) (fun n hn => by cases hn) fun n u => u.elim (fun z => by cases z) id
theorem SimM.stk {α β : Type} {m : Env → EM β} {R : LH → α → β → List Nat → Prop} : SimM stk2 m R := fun h e2 env F w => trivial
theorem SimP.guard (b : Bool) : SimP (guard2 b) (fun _ => guard' b) := by
  cases b
  · exact SimM.stk
  · exact SimP.ret ()
theorem SimP.lift {α : Type} (o : Option α) : SimP (lift2 o) (fun _ => ofO o) := by
  cases o
  · exact SimM.stk
  · exact SimP.ret _
theorem SimV.fr (d : D) : SimV (ret2 (.fr d)) (fun _ => ret d) := fun h e2 env F w => RelE.ret (S := []) (.fr d) w (fun n hn => by cases hn) (fun n hn => by cases hn) fun n u => u.elim (fun z => by cases z) id
theorem SimV.asFr {m2 : M2 Vl} {m : Env → EM D} (p : SimV m2 m) : SimP (bnd2 m2 asFr) m := fun h e2 env F w => by
  have q := p h e2 env F w
  show RelE h (UE F) env RP ((m2 e2).bnd SX.asFr) (m env h)
  generalize m2 e2 = r2 at q
  cases r2 with
  | stuck => trivial
  | ok a e2 =>
    cases a with
    | fr d =>
      obtain ⟨b, h', T, F', e, q1, q2, q3, q4, q5⟩ := q
      obtain ⟨rfl, rfl⟩ := q1.frz
      exact ⟨_, h', [], F', e, ⟨rfl, rfl⟩, q2, q3, q4, q5⟩
    | ls _ => trivial
    | di _ => trivial
    | ob _ _ => trivial
  | ex x e2 => exact q
theorem SimM.noEx {α β : Type} {R : LH → α → β → List Nat → Prop} {m2 : M2 α} {m : Env → EM β} (p : SimM m2 m R) : SimM (noEx2 m2) (fun env => noEx (m env)) R := fun h e2 env F w => by
  have q := p h e2 env F w
  show RelE h (UE F) env R ((m2 e2).noEx) (SX.noEx (m env) h)
  unfold SX.noEx
  generalize m2 e2 = r2 at q
  cases r2 with
  | stuck => trivial
  | ok a e2 =>
    obtain ⟨b, h', T, F', e, q1⟩ := q
    rw [e]
    exact ⟨b, h', T, F', rfl, q1⟩
  | ex x e2 => trivial
/-! ### operations that look at no object -/
def PO {α : Type} (m : EM α) : Prop := m [] = .stuck ∨ ∃ a, m = ret a
theorem PO.ret {α : Type} (a : α) : PO (ret a) := .inr ⟨a, rfl⟩
theorem PO.stk {α : Type} : PO (stk : EM α) := .inl rfl
theorem PO.guard (b : Bool) : PO (guard' b) := by
  cases b
  · exact .inl rfl
  · exact .inr ⟨(), rfl⟩
theorem PO.ofO {α : Type} (o : Option α) : PO (ofO o) := by
  cases o
  · exact .inl rfl
  · exact .inr ⟨_, rfl⟩
theorem PO.bnd {α β : Type} {m : EM α} {f : α → EM β} (h : PO m) (k : ∀ a, PO (f a)) : PO (bnd m f) := by
  rcases h with e | ⟨a, rfl⟩
  · left; unfold SX.bnd; rw [e]
  · exact k a
theorem PO.getC {α : Type} (n : Nat) (f : Cell → EM α) : PO (SX.bnd (getC n) f) := .inl rfl
theorem PO.sim {α : Type} {m : EM α} (h : PO m) : SimP (lift2 (pureO m)) (fun _ => m) := by
  rcases h with e | ⟨a, rfl⟩
  · unfold pureO; rw [e]; exact SimM.stk
  · exact SimP.ret a
/-! ### calls -/
inductive OwnO (h : LH) : List Vl → List (Option Vl) → List D → List Nat → Prop
  | nil : OwnO h [] [] [] []
  | fr {x : D} {o : Option Vl} {d : D} {vs : List Vl} {os : List (Option Vl)} {ds : List D} {T : List Nat} : OwnO h vs os ds T → OwnO h (.fr x :: vs) (o :: os) (d :: ds) T
  | gone {v : Vl} {d : D} {vs : List Vl} {os : List (Option Vl)} {ds : List D} {T : List Nat} : v.isFr = false → OwnO h vs os ds T → OwnO h (v :: vs) (none :: os) (d :: ds) T
  | some {v u : Vl} {d : D} {vs : List Vl} {os : List (Option Vl)} {ds : List D} {S T : List Nat} : v.isFr = false → Own h u d S → OwnO h vs os ds T → (∀ n ∈ S, n ∉ T) → OwnO h (v :: vs) (some u :: os) (d :: ds) (S ++ T)
theorem OwnO.lt {h : LH} {vs : List Vl} {os : List (Option Vl)} {ds : List D} {T : List Nat} (o : OwnO h vs os ds T) : ∀ n ∈ T, n < h.length := by
  induction o with
  | nil => intro n hn; cases hn
  | fr _ ih => exact ih
  | gone _ _ ih => exact ih
  | some _ o _ _ ih =>
    intro n hn
    rcases List.mem_append.mp hn with z | z
    · exact o.lt n z
    · exact ih n z
def RelF (h : LH) (U : Nat → Prop) (ds : List D) (vs : List Vl) : RF → Res D → Prop
  | .ok v os, r => ∃ d h' S T, r = .ok d h' ∧ Own h' v d S ∧ OwnO h' vs os ds T ∧ (∀ n ∈ S, n ∉ T) ∧ Step h U h' (fun n => n ∈ S ∨ n ∈ T)
  | .ex x os, r => ∃ h' T, r = .ex x h' ∧ OwnO h' vs os ds T ∧ Step h U h' (fun n => n ∈ T)
  | .stuck, _ => True
def SimF (s2 : Sem2) (s : Sem) : Prop := ∀ h vs ds T, OwnL h vs ds T → RelF h (fun n => n ∈ T) ds vs (s2 vs) (s ds h)
inductive ArgR (h : LH) (env : Env) : Arg → D → List Nat → Prop
  | val {v : Vl} {d : D} {S : List Nat} : Own h v d S → ArgR h env (.val v) d S
  | bor {i : Nat} {d : D} : env[i]? = some (some d) → ArgR h env (.bor i) d []
inductive ArgL (h : LH) (env : Env) : List Arg → List D → List Nat → Prop
  | nil : ArgL h env [] [] []
  | cons {a : Arg} {d : D} {S T : List Nat} {as : List Arg} {ds : List D} : ArgR h env a d S → ArgL h env as ds T → (∀ n ∈ S, n ∉ T) → ArgL h env (a :: as) (d :: ds) (S ++ T)
theorem ArgR.fram {h h' : LH} {env : Env} {a : Arg} {d : D} {S : List Nat} (r : ArgR h env a d S) (f : ∀ n ∈ S, h'[n]? = h[n]?) : ArgR h' env a d S := by
  cases r with
  | val o => exact .val (o.fram f)
  | bor e => exact .bor e
theorem ArgR.lt {h : LH} {env : Env} {a : Arg} {d : D} {S : List Nat} (r : ArgR h env a d S) : ∀ n ∈ S, n < h.length := by
  cases r with
  | val o => exact o.lt
  | bor e => intro n hn; cases hn
theorem ArgL.lt {h : LH} {env : Env} {a : List Arg} {d : List D} {S : List Nat} (r : ArgL h env a d S) : ∀ n ∈ S, n < h.length := by
  induction r with
  | nil => intro n hn; cases hn
  | cons r _ _ ih =>
    intro n hn
    rcases List.mem_append.mp hn with z | z
    · exact r.lt n z
    · exact ih n z
theorem ArgL.length {h : LH} {env : Env} {a : List Arg} {d : List D} {S : List Nat} (r : ArgL h env a d S) : a.length = d.length := by
  induction r with
  | nil => rfl
  | cons _ _ _ ih => exact congrArg (· + 1) ih
theorem noDup_cons {a : Nat} {l : List Nat} (h : noDup (a :: l) = true) : a ∉ l ∧ noDup l = true := by
  unfold noDup at h
  rw [Bool.and_eq_true] at h
  refine ⟨fun z => ?_, h.2⟩
  have := h.1
  rw [Bool.not_eq_true', List.contains_eq_mem] at this
  simp [z] at this
/-- what is handed over: the values, and who owns -/
theorem getA_own {h : LH} {e2 : VE} {env : Env} {F : Nat → List Nat} (w : EOwn h e2 env F []) {as : List Arg} {ds : List D} {S : List Nat} (r : ArgL h env as ds S) : ∀ {vs : List Vl}, (∀ n ∈ S, ∀ i, n ∉ F i) → getA e2 as = some vs → noDup (lent as vs) = true →
    ∃ T, OwnL h vs ds T ∧ ∀ n ∈ T, n ∈ S ∨ ∃ i ∈ lent as vs, n ∈ F i := by
  induction r with
  | nil =>
    intro vs _ e _
    cases e
    exact ⟨[], .nil, fun n hn => by cases hn⟩
  | @cons a d Sa Sr as ds ra rl dj ih =>
    intro vs hd e nd
    unfold getA at e
    cases e1 : getA1 e2 a with
    | none => rw [e1] at e; cases e
    | some v =>
      cases e3 : getA e2 as with
      | none => rw [e1, e3] at e; cases e
      | some vr =>
        rw [e1, e3] at e
        cases e
        have hd2 : ∀ n ∈ Sr, ∀ i, n ∉ F i := fun n hn => hd n (List.mem_append_right _ hn)
        have hd1 : ∀ n ∈ Sa, ∀ i, n ∉ F i := fun n hn => hd n (List.mem_append_left _ hn)
        cases ra with
        | val o =>
          cases e1
          have hl : lent (.val v :: as) (v :: vr) = lent as vr := by cases v <;> rfl
          rw [hl] at nd ⊢
          obtain ⟨T, o2, s2⟩ := ih hd2 e3 nd
          refine ⟨Sa ++ T, .cons o o2 fun n hn z => ?_, fun n hn => ?_⟩
          · rcases s2 n z with y | ⟨i, _, y⟩
            · exact dj n hn y
            · exact hd1 n hn i y
          · rcases List.mem_append.mp hn with z | z
            · exact .inl (List.mem_append_left _ z)
            · exact (s2 n z).imp (List.mem_append_right _) id
        | @bor i _ ei =>
          have e5 : e2[i]? = some (some v) := by
            unfold getA1 at e1
            dsimp only at e1
            split at e1
            · rename_i o e6; rw [e6, e1]
            · cases e1
          obtain ⟨d', e6, o⟩ := w.own i v (by simp) e5
          rw [ei] at e6
          cases e6
          cases hv : v.isFr with
          | true =>
            cases v with
            | fr x =>
              obtain ⟨rfl, e7⟩ := o.frz
              have hl : lent (.bor i :: as) (.fr d :: vr) = lent as vr := rfl
              rw [hl] at nd ⊢
              obtain ⟨T, o2, s2⟩ := ih hd2 e3 nd
              exact ⟨[] ++ T, .cons (.fr _) o2 (by simp), fun n hn => (s2 n (by simpa using hn)).imp (by simp) id⟩
            | ls _ => cases hv
            | di _ => cases hv
            | ob _ _ => cases hv
          | false =>
            have hl : lent (.bor i :: as) (v :: vr) = i :: lent as vr := by
              cases v with
              | fr _ => cases hv
              | ls _ => rfl
              | di _ => rfl
              | ob _ _ => rfl
            rw [hl] at nd ⊢
            obtain ⟨ni, nd2⟩ := noDup_cons nd
            obtain ⟨T, o2, s2⟩ := ih hd2 e3 nd2
            refine ⟨F i ++ T, .cons o o2 fun n hn z => ?_, fun n hn => ?_⟩
            · rcases s2 n z with y | ⟨j, hj, y⟩
              · exact hd2 n y i hn
              · exact w.dis i j (fun q => ni (q ▸ hj)) n hn y
            · rcases List.mem_append.mp hn with z | z
              · exact .inr ⟨i, List.mem_cons_self, z⟩
              · rcases s2 n z with y | ⟨j, hj, y⟩
                · exact .inl (List.mem_append_right _ y)
                · exact .inr ⟨j, List.mem_cons_of_mem _ hj, y⟩
/-- what comes back -/
theorem putA_own {h' h0 : LH} {env : Env} {as : List Arg} {ds : List D} {S0 : List Nat} (r : ArgL h0 env as ds S0) : ∀ {vs : List Vl} {os : List (Option Vl)} {T : List Nat} {e2 : VE} {F : Nat → List Nat}, OwnO h' vs os ds T → EOwn h' e2 env F (lent as vs) → (∀ n ∈ T, ∀ j, n ∉ F j) →
    ∃ F', EOwn h' (putA as vs os e2) env F' [] ∧ ∀ i n, n ∈ F' i → n ∈ T ∨ UE F n := by
  induction r with
  | nil =>
    intro vs os T e2 F o w d
    cases o
    exact ⟨F, w, fun i n hn => .inr ⟨i, hn⟩⟩
  | @cons a d Sa Sr as ds ra rl dj ih =>
    intro vs os T e2 F o w dT
    cases o with
    | fr o2 => exact ih o2 w dT
    | @gone v _ vs os _ T hv o2 =>
      cases ra with
      | val _ =>
        have hl : ∀ u, lent (.val u :: as) (v :: vs) = lent as vs := fun u => by cases v <;> rfl
        rw [hl] at w
        have hp : ∀ u, putA (.val u :: as) (v :: vs) (none :: os) e2 = putA as vs os e2 := fun u => by cases v <;> rfl
        rw [hp]
        exact ih o2 w dT
      | @bor i _ ei =>
        have hl : lent (.bor i :: as) (v :: vs) = i :: lent as vs := by
          cases v with
          | fr _ => cases hv
          | ls _ => rfl
          | di _ => rfl
          | ob _ _ => rfl
        have hp : putA (.bor i :: as) (v :: vs) (none :: os) e2 = putA as vs os (e2.set i none) := by
          cases v with
          | fr _ => cases hv
          | ls _ => rfl
          | di _ => rfl
          | ob _ _ => rfl
        rw [hl] at w
        rw [hp]
        have w2 := w.put (o := none) (S := []) (fun v e => by cases e) (by simp) (by simp)
        obtain ⟨F', w3, s3⟩ := ih o2 w2 fun n hn j hj => by
          rcases UE_up ⟨j, hj⟩ with z | ⟨k, z⟩
          · cases z
          · exact dT n hn k z
        exact ⟨F', w3, fun k n hn => (s3 k n hn).imp id fun z => (UE_up z).elim (by simp) id⟩
    | @some v u _ vs os _ Su T hv ou o2 dj2 =>
      cases ra with
      | val _ =>
        have hl : ∀ u, lent (.val u :: as) (v :: vs) = lent as vs := fun u => by cases v <;> rfl
        rw [hl] at w
        have hp : ∀ x, putA (.val x :: as) (v :: vs) (some u :: os) e2 = putA as vs os e2 := fun x => by cases v <;> rfl
        rw [hp]
        obtain ⟨F', w3, s3⟩ := ih o2 w fun n hn => dT n (List.mem_append_right _ hn)
        exact ⟨F', w3, fun k n hn => (s3 k n hn).imp (List.mem_append_right _) id⟩
      | @bor i _ ei =>
        have hl : lent (.bor i :: as) (v :: vs) = i :: lent as vs := by
          cases v with
          | fr _ => cases hv
          | ls _ => rfl
          | di _ => rfl
          | ob _ _ => rfl
        have hp : putA (.bor i :: as) (v :: vs) (some u :: os) e2 = putA as vs os (e2.set i (some u)) := by
          cases v with
          | fr _ => cases hv
          | ls _ => rfl
          | di _ => rfl
          | ob _ _ => rfl
        rw [hl] at w
        rw [hp]
        have w2 := w.put (o := some u) (S := Su) (fun v e => by cases e; exact ⟨_, ei, ou⟩) ou.lt (fun n hn j _ => dT n (List.mem_append_left _ hn) j)
        obtain ⟨F', w3, s3⟩ := ih o2 w2 fun n hn j hj => by
          rcases UE_up ⟨j, hj⟩ with z | ⟨k, z⟩
          · exact dj2 n z hn
          · exact dT n (List.mem_append_right _ hn) k z
        refine ⟨F', w3, fun k n hn => ?_⟩
        rcases s3 k n hn with z | z
        · exact .inl (List.mem_append_right _ z)
        · exact (UE_up z).imp (List.mem_append_left _) id
/-- after a call: all is owned again -/
theorem call_own {h h' : LH} {e2 : VE} {env : Env} {F : Nat → List Nat} (w : EOwn h e2 env F []) {as : List Arg} {ds : List D} {S T : List Nat} {vs : List Vl} (r : ArgL h env as ds S) (hS : ∀ n ∈ S, ∀ i, n ∉ F i) (hT : ∀ n ∈ T, n ∈ S ∨ ∃ i ∈ lent as vs, n ∈ F i)
    {os : List (Option Vl)} {T' Sv : List Nat} (oo : OwnO h' vs os ds T') (hv : ∀ n ∈ Sv, n ∉ T') (st : Step h (fun n => n ∈ T) h' (fun n => n ∈ Sv ∨ n ∈ T')) :
    ∃ F', EOwn h' (putA as vs os e2) env F' [] ∧ (∀ n ∈ Sv, ∀ i, n ∉ F' i) ∧ Step h (fun n => n ∈ S ∨ UE F n) h' (fun n => n ∈ Sv ∨ UE F' n) := by
  have tU : ∀ n, n ∈ T → n ∈ S ∨ UE F n := fun n hn => (hT n hn).imp id fun ⟨i, _, z⟩ => ⟨i, z⟩
  let F0 : Nat → List Nat := fun j => if (lent as vs).contains j = true then [] else F j
  have f0 : ∀ j n, n ∈ F0 j → n ∈ F j ∧ n ∉ T := fun j n hn => by
    by_cases q : (lent as vs).contains j = true
    · have : F0 j = [] := if_pos q
      rw [this] at hn
      cases hn
    · have e : F0 j = F j := if_neg q
      rw [e] at hn
      refine ⟨hn, fun z => ?_⟩
      rcases hT n z with y | ⟨i, hi, y⟩
      · exact hS n y j hn
      · exact w.dis j i (fun x => q (by rw [List.contains_eq_mem, x]; exact decide_eq_true hi)) n hn y
  have w0 : EOwn h e2 env F0 (lent as vs) := ⟨w.len, fun i n hn => w.lt i n (f0 i n hn).1, fun i v hi e => by
    have e1 : F0 i = F i := if_neg (by rw [List.contains_eq_mem]; simpa using hi)
    rw [e1]
    exact w.own i v (by simp) e, fun i j hij n hn z => w.dis i j hij n (f0 i n hn).1 (f0 j n z).1⟩
  have w1 : EOwn h' e2 env F0 (lent as vs) := w0.fram st.len fun i n hn => st.fr n (w0.lt i n hn) (f0 i n hn).2
  have old : ∀ j n, n ∈ F0 j → ¬ (n ∈ Sv ∨ n ∈ T') := fun j n hn z => by
    rcases st.sub n z with y | y
    · exact (f0 j n hn).2 y
    · have := w0.lt j n hn; omega
  obtain ⟨F', w2, s2⟩ := putA_own r oo w1 fun n hn j hj => old j n hj (.inr hn)
  refine ⟨F', w2, fun n hn i hi => ?_, ⟨st.len, fun n hn u => st.fr n hn fun z => u (tU n z), fun n u => ?_⟩⟩
  · rcases s2 i n hi with z | ⟨j, z⟩
    · exact hv n hn z
    · exact old j n z (.inl hn)
  · rcases u with u | ⟨i, hi⟩
    · exact (st.sub n (.inl u)).imp (tU n) id
    · rcases s2 i n hi with z | ⟨j, z⟩
      · exact (st.sub n (.inr z)).imp (tU n) id
      · exact .inl (.inr ⟨j, (f0 j n z).1⟩)
theorem callS_sim {h : LH} {e2 : VE} {env : Env} {F : Nat → List Nat} (w : EOwn h e2 env F []) {as : List Arg} {ds : List D} {S : List Nat} (r : ArgL h env as ds S) (hS : ∀ n ∈ S, ∀ i, n ∉ F i) {o2 : Option Sem2} {o : Option Sem} (q : ∀ s2, o2 = some s2 → ∃ s, o = some s ∧ SimF s2 s) :
    RelE h (fun n => n ∈ S ∨ UE F n) env Own (callS o2 as e2) (useD o ds h) := by
  unfold callS
  cases o2 with
  | none => trivial
  | some s2 =>
    obtain ⟨s, rfl, f⟩ := q s2 rfl
    dsimp only
    cases e : getA e2 as with
    | none => trivial
    | some vs =>
      dsimp only
      by_cases nd : noDup (lent as vs) = true
      · rw [if_pos nd]
        obtain ⟨T, oL, hT⟩ := getA_own w r hS e nd
        have p := f h vs ds T oL
        show RelE h _ env Own ((s2 vs).back as vs e2) (s ds h)
        generalize s2 vs = r2 at p
        cases r2 with
        | stuck => trivial
        | ok v os =>
          obtain ⟨d, h', Sv, T', er, ov, oo, hv, st⟩ := p
          obtain ⟨F', w', dj, st'⟩ := call_own w r hS hT oo hv st
          exact ⟨d, h', Sv, F', er, ov, w', dj, ov.lt, st'⟩
        | ex x os =>
          obtain ⟨h', T', er, oo, st⟩ := p
          obtain ⟨F', w', dj, st'⟩ := call_own (Sv := []) w r hS hT oo (by simp) (st.mono (fun n u => u) fun n u => u.elim (by simp) id)
          exact ⟨h', F', er, w', st'.mono (fun n u => u) fun n u => .inr u⟩
      · rw [if_neg nd]; trivial
theorem mkD_ok {C : Ctx} {c : Nat} {ds : List D} {h h' : LH} {s : Sem} (es : C.ini c ds.length = some s) (er : s (.ref h.length :: ds) (h ++ [some (Cell.obj c [])]) = .ok .non h') : mkD C c ds h = .ok (.ref h.length) h' := by
  unfold mkD
  show bnd (useD (C.ini c ds.length) (.ref h.length :: ds)) _ (h ++ [some (Cell.obj c [])]) = _
  rw [es]
  show bnd (s (.ref h.length :: ds)) _ _ = _
  unfold SX.bnd
  rw [er]
  rfl
theorem mkD_ex {C : Ctx} {c : Nat} {ds : List D} {h h' : LH} {s : Sem} {x : Exn} (es : C.ini c ds.length = some s) (er : s (.ref h.length :: ds) (h ++ [some (Cell.obj c [])]) = .ex x h') : mkD C c ds h = .ex x h' := by
  unfold mkD
  show bnd (useD (C.ini c ds.length) (.ref h.length :: ds)) _ (h ++ [some (Cell.obj c [])]) = _
  rw [es]
  show bnd (s (.ref h.length :: ds)) _ _ = _
  unfold SX.bnd
  rw [er]
theorem makeS_sim {h : LH} {e2 : VE} {env : Env} {F : Nat → List Nat} (w : EOwn h e2 env F []) {as : List Arg} {ds : List D} {S : List Nat} (r : ArgL h env as ds S) (hS : ∀ n ∈ S, ∀ i, n ∉ F i) {C : Ctx} {c k : Nat} {o2 : Option Sem2} (hk : k = ds.length) (q : ∀ s2, o2 = some s2 → ∃ s, C.ini c k = some s ∧ SimF s2 s) :
    RelE h (fun n => n ∈ S ∨ UE F n) env Own (makeS o2 c as e2) (mkD C c ds h) := by
  subst hk
  unfold makeS
  cases o2 with
  | none => trivial
  | some s2 =>
    obtain ⟨s, es, f⟩ := q s2 rfl
    dsimp only
    cases e : getA e2 as with
    | none => trivial
    | some vs =>
      dsimp only
      by_cases nd : noDup (lent as vs) = true
      · rw [if_pos nd]
        obtain ⟨T, oL, hT⟩ := getA_own w r hS e nd
        have hl : ∀ n, n < h.length → (h ++ [some (Cell.obj c [])])[n]? = h[n]? := fun n hn => List.getElem?_append_left hn
        have o1 : Own (h ++ [some (Cell.obj c [])]) (.ob c []) (.ref h.length) [h.length] := .ob h.length c [] [] [] (by simp) .nil (by simp)
        have oL1 : OwnL (h ++ [some (Cell.obj c [])]) (.ob c [] :: vs) (.ref h.length :: ds) ([h.length] ++ T) := .cons o1 (oL.fram fun n hn => hl n (oL.lt n hn)) fun n hn z => by
          rw [List.mem_singleton.mp hn] at z
          have := oL.lt _ z
          omega
        have p := f _ _ _ _ oL1
        show RelE h _ env Own ((s2 (.ob c [] :: vs)).made as vs e2) _
        generalize s2 (.ob c [] :: vs) = r2 at p
        have s0 : ∀ {U' : Nat → Prop} {h' : LH}, Step (h ++ [some (Cell.obj c [])]) (fun n => n ∈ [h.length] ++ T) h' U' → Step h (fun n => n ∈ T) h' U' := fun st => ⟨by have := st.len; simp at this; omega, fun n hn u => by
          rw [st.fr n (by simp; omega) (fun z => (List.mem_append.mp z).elim (fun z => by have := List.mem_singleton.mp z; omega) u), hl n hn], fun n u => by
          rcases st.sub n u with z | z
          · rcases List.mem_append.mp z with y | y
            · exact .inr (by rw [List.mem_singleton.mp y]; exact Nat.le_refl _)
            · exact .inl y
          · simp at z
            exact .inr (by omega)⟩
        cases r2 with
        | stuck => trivial
        | ok v os =>
          obtain ⟨d, h', Sv, T', er, ov, oo, hv, st⟩ := p
          cases v with
          | fr dv =>
            cases dv <;> first | trivial | skip
            cases os with
            | nil => trivial
            | cons o os =>
              cases o with
              | none => trivial
              | some o =>
                obtain ⟨rfl, rfl⟩ := ov.frz
                cases oo with
                | some hh ou o2 dj2 =>
                  obtain ⟨F', w', dj, st'⟩ := call_own w r hS hT o2 dj2 ((s0 st).mono (fun n u => u) fun n u => .inr (List.mem_append.mpr u))
                  exact ⟨_, h', _, F', mkD_ok es er, ou, w', dj, ou.lt, st'⟩
          | ls _ => trivial
          | di _ => trivial
          | ob _ _ => trivial
        | ex x os =>
          obtain ⟨h', T', er, oo, st⟩ := p
          rw [mkD_ex es er]
          have fin : ∀ {os : List (Option Vl)} {T2 : List Nat}, OwnO h' vs os ds T2 → (∀ n ∈ T2, n ∈ T') → RelE h (fun n => n ∈ S ∨ UE F n) env Own (.ex x (putA as vs os e2)) (.ex x h') := fun o2 sub => by
            obtain ⟨F', w', dj, st'⟩ := call_own (Sv := []) w r hS hT o2 (by simp) ((s0 st).mono (fun n u => u) fun n u => u.elim (by simp) (sub n))
            exact ⟨h', F', rfl, w', st'.mono (fun n u => u) fun n u => .inr u⟩
          cases oo with
          | gone hh o2 => exact fin o2 fun n hn => hn
          | some hh ou o2 dj2 => exact fin o2 fun n hn => List.mem_append_right _ hn
      · rw [if_neg nd]; trivial
end SX
end
section
set_option Elab.async false
set_option linter.all false
set_option maxRecDepth 100000
set_option maxHeartbeats 4000000
/-! VS4: operations on both sides. -/
namespace SX
open PySem
theorem getC_of {h : LH} {n : Nat} {c : Cell} (e : h[n]? = some (some c)) : getC n h = .ok c h := by
  unfold getC; rw [e]
theorem setC_of {h : LH} {n : Nat} {c c' : Cell} (e : h[n]? = some (some c)) : setC n c' h = .ok () (h.set n (some c')) := by
  unfold setC; rw [e]
theorem bnd_of {α β : Type} {m : EM α} {f : α → EM β} {h h' : LH} {a : α} (e : m h = .ok a h') : bnd m f h = f a h' := by
  unfold SX.bnd; rw [e]
theorem getE_of {env : Env} {i : Nat} {d : D} (e : env[i]? = some (some d)) : getE env i = ret d := by
  unfold getE; rw [e]
theorem OwnL.get {h : LH} {x : D} : {vs : List Vl} → {ds : List D} → {S : List Nat} → (j : Nat) → OwnL h vs ds S → vs[j]? = some (.fr x) → ds[j]? = some x
  | _, _, _, j, .nil, e => by cases e
  | _, _, _, 0, .cons o r q, e => by
    simp at e
    subst e
    obtain ⟨rfl, _⟩ := o.frz
    simp
  | _, _, _, j + 1, .cons o r q, e => by
    simp at e ⊢
    exact OwnL.get j r e
theorem OwnK.keys {h : LH} : {vs : List (L2.Key × Vl)} → {ds : List (L2.Key × D)} → {S : List Nat} → OwnK h vs ds S → ds.map (·.1) = vs.map (·.1)
  | _, _, _, .nil => rfl
  | _, _, _, .cons o r q => by rw [List.map_cons, List.map_cons, OwnK.keys r]
theorem OwnK.length {h : LH} {vs : List (L2.Key × Vl)} {ds : List (L2.Key × D)} {S : List Nat} (o : OwnK h vs ds S) : ds.length = vs.length := by
  have := congrArg List.length o.keys
  simpa using this
theorem OwnK.val {h : LH} {x : D} {k : L2.Key} : {vs : List (L2.Key × Vl)} → {ds : List (L2.Key × D)} → {S : List Nat} → OwnK h vs ds S → valV vs k = some (.fr x) → valD ds k = some x
  | _, _, _, .nil, e => by cases e
  | _, _, _, .cons (k := k') (v := v) (d := d) o r q, e => by
    unfold valV at e
    unfold valD
    rw [List.find?_cons] at e ⊢
    by_cases z : k' = k
    · simp only [z, decide_true] at e ⊢
      simp at e ⊢
      subst e
      exact o.frz.1
    · simp only [z, decide_false] at e ⊢
      exact OwnK.val r e
theorem any_key {α β : Type} {k : L2.Key} : ∀ {vs : List (L2.Key × α)} {ds : List (L2.Key × β)}, ds.map (·.1) = vs.map (·.1) → (ds.any fun kv => decide (kv.1 = k)) = (vs.any fun kv => decide (kv.1 = k))
  | [], [], _ => rfl
  | [], _ :: _, e => by cases e
  | _ :: _, [], e => by cases e
  | v :: vs, d :: ds, e => by
    rw [List.map_cons, List.map_cons, List.cons.injEq] at e
    rw [List.any_cons, List.any_cons, e.1, any_key e.2]
theorem OwnK.app {h : LH} {k : L2.Key} {x : D} : {vs : List (L2.Key × Vl)} → {ds : List (L2.Key × D)} → {S : List Nat} → OwnK h vs ds S → OwnK h (vs ++ [(k, .fr x)]) (ds ++ [(k, x)]) S
  | _, _, _, .nil => .cons (S := []) (T := []) (.fr x) .nil (by simp)
  | _, _, _, .cons o r q => .cons o (OwnK.app r) q
theorem OwnK.rep {h : LH} {k : L2.Key} {x : D} : {vs : List (L2.Key × Vl)} → {ds : List (L2.Key × D)} → {S : List Nat} → OwnK h vs ds S → ∃ S', OwnK h (vs.map fun kv => if kv.1 = k then (kv.1, .fr x) else kv) (ds.map fun kv => if kv.1 = k then (kv.1, x) else kv) S' ∧ ∀ n ∈ S', n ∈ S
  | _, _, _, .nil => ⟨[], .nil, by simp⟩
  | _, _, _, .cons (k := k') (v := v) (d := d) (S := S1) (T := T1) o r q => by
    obtain ⟨S', o', s'⟩ := OwnK.rep (k := k) (x := x) r
    rw [List.map_cons, List.map_cons]
    by_cases z : k' = k
    · rw [if_pos z, if_pos z]
      exact ⟨[] ++ S', .cons (.fr x) o' (by simp), fun n hn => List.mem_append_right _ (s' n (by simpa using hn))⟩
    · rw [if_neg z, if_neg z]
      refine ⟨S1 ++ S', .cons o o' fun n hn y => q n hn (s' n y), fun n hn => ?_⟩
      rcases List.mem_append.mp hn with y | y
      · exact List.mem_append_left _ y
      · exact List.mem_append_right _ (s' n y)
theorem OwnK.put {h : LH} {k : L2.Key} {x : D} {vs : List (L2.Key × Vl)} {ds : List (L2.Key × D)} {S : List Nat} (o : OwnK h vs ds S) : ∃ S', OwnK h (putV vs k (.fr x)) (putD ds k x) S' ∧ ∀ n ∈ S', n ∈ S := by
  unfold putV putD
  rw [any_key o.keys]
  split
  · exact o.rep
  · exact ⟨S, o.app, fun n hn => hn⟩
theorem OwnK.merge {h : LH} : ∀ {ms : List (L2.Key × Vl)} {md : List (L2.Key × D)} {Sm : List Nat} {l : List D}, OwnK h ms md Sm → frsD (ms.map (·.2)) = some l → ∀ {vs : List (L2.Key × Vl)} {ds : List (L2.Key × D)} {S : List Nat}, OwnK h vs ds S → ∃ S', OwnK h (mergeV vs ms) (mergeD ds md) S' ∧ ∀ n ∈ S', n ∈ S
  | _, _, _, l, .nil, _, vs, ds, S, o => ⟨S, o, fun n hn => hn⟩
  | _, _, _, l, .cons (v := v) (vs := ms) om rm q, e, vs, ds, S, o => by
    rw [List.map_cons] at e
    cases v with
    | fr x =>
      obtain ⟨rfl, rfl⟩ := om.frz
      unfold frsD at e
      cases e1 : frsD (ms.map (·.2)) with
      | none => rw [e1] at e; cases e
      | some l' =>
        obtain ⟨S1, o1, s1⟩ := o.put
        obtain ⟨S2, o2, s2⟩ := OwnK.merge rm e1 o1
        exact ⟨S2, o2, fun n hn => s1 n (s2 n hn)⟩
    | ls _ => cases e
    | di _ => cases e
    | ob _ _ => cases e
theorem OwnL.zipK {h : LH} : {vs : List Vl} → {ds : List D} → {S : List Nat} → (ks : List L2.Key) → OwnL h vs ds S → ks.length = vs.length → OwnK h (ks.zip vs) (ks.zip ds) S
  | _, _, _, [], .nil, _ => .nil
  | _, _, _, _ :: _, .nil, e => by cases e
  | _, _, _, [], .cons _ _ _, e => by cases e
  | _, _, _, k :: ks, .cons o r q, e => .cons o (OwnL.zipK ks r (by simpa using e)) q
theorem merge_new : ∀ (l acc : List (L2.Key × D)), ((acc ++ l).map (·.1)).Nodup → mergeD acc l = acc ++ l
  | [], acc, _ => by unfold mergeD; simp
  | (k, d) :: l, acc, h => by
    have e : putD acc k d = acc ++ [(k, d)] := by
      unfold putD
      rw [if_neg]
      intro z
      rw [List.any_eq_true] at z
      obtain ⟨p, hp, ep⟩ := z
      have ep := of_decide_eq_true ep
      rw [List.map_append, List.nodup_append] at h
      exact h.2.2 p.1 (List.mem_map_of_mem hp) k (by simp) ep
    unfold mergeD
    rw [List.foldl_cons]
    show mergeD (putD acc k d) l = _
    rw [e, merge_new l (acc ++ [(k, d)]) (by simpa using h)]
    simp
theorem OwnL.putAt {h : LH} {v : Vl} {d : D} {S : List Nat} (ov : Own h v d S) : {vs : List Vl} → {ds : List D} → {T : List Nat} → (j : Nat) → OwnL h vs ds T → (∀ n ∈ S, n ∉ T) → ∃ T', OwnL h (vs.take j ++ v :: vs.drop (j + 1)) (ds.take j ++ d :: ds.drop (j + 1)) T' ∧ ∀ n ∈ T', n ∈ S ∨ n ∈ T
  | _, _, _, j, .nil, dj => ⟨S ++ [], by simpa using OwnL.cons ov .nil (by simp), fun n hn => .inl (by simpa using hn)⟩
  | _, _, _, 0, .cons (T := T1) o r q, dj => ⟨S ++ T1, by simpa using OwnL.cons ov r fun n hn z => dj n hn (List.mem_append_right _ z), fun n hn => by
    rcases List.mem_append.mp hn with y | y
    · exact .inl y
    · exact .inr (List.mem_append_right _ y)⟩
  | _, _, _, j + 1, .cons (S := S1) (T := T1) o r q, dj => by
    obtain ⟨T', o', s'⟩ := OwnL.putAt ov j r fun n hn z => dj n hn (List.mem_append_right _ z)
    have hd : ∀ n ∈ S1, n ∉ T' := fun n hn z => by
      rcases s' n z with y | y
      · exact dj n y (List.mem_append_left _ hn)
      · exact q n hn y
    refine ⟨S1 ++ T', by simpa using OwnL.cons o o' hd, fun n hn => ?_⟩
    rcases List.mem_append.mp hn with y | y
    · exact .inr (List.mem_append_left _ y)
    · exact (s' n y).imp id (List.mem_append_right _)
theorem Own.ref {h : LH} {v : Vl} {d : D} {S : List Nat} (o : Own h v d S) (hv : v.isFr = false) : ∃ n, d = .ref n ∧ n ∈ S ∧ ∃ c, h[n]? = some (some c) := by
  cases o with
  | fr _ => cases hv
  | ls n l e => exact ⟨n, rfl, List.mem_singleton.mpr rfl, _, e⟩
  | di n _ _ _ e => exact ⟨n, rfl, List.mem_cons_self, _, e⟩
  | ob n _ _ _ _ e => exact ⟨n, rfl, List.mem_cons_self, _, e⟩
/-! ### reading what an argument is -/
theorem getA1_own {h : LH} {e2 : VE} {env : Env} {F : Nat → List Nat} (w : EOwn h e2 env F []) {a : Arg} {d : D} {S : List Nat} (r : ArgR h env a d S) (hS : ∀ n ∈ S, ∀ i, n ∉ F i) {v : Vl} (e : getA1 e2 a = some v) : ∃ T, Own h v d T ∧ ∀ n ∈ T, n ∈ S ∨ UE F n := by
  cases r with
  | val o => cases e; exact ⟨S, o, fun n hn => .inl hn⟩
  | @bor i _ ei =>
    have e5 : e2[i]? = some (some v) := by
      unfold getA1 at e
      dsimp only at e
      split at e
      · rename_i o e6; rw [e6, e]
      · cases e
    obtain ⟨d', e6, o⟩ := w.own i v (by simp) e5
    rw [ei] at e6
    cases e6
    exact ⟨F i, o, fun n hn => .inr ⟨i, hn⟩⟩
theorem RelE.drop {α β : Type} {h : LH} {e2 : VE} {env : Env} {F : Nat → List Nat} {S : List Nat} {R : LH → α → β → List Nat → Prop} {r2 : R2 α} {r : Res β} (p : RelE h (UE F) env R r2 r) : RelE h (fun n => n ∈ S ∨ UE F n) env R r2 r := p.mono fun n u => .inr u
theorem peek_rel {h : LH} {e2 : VE} {env : Env} {F : Nat → List Nat} (w : EOwn h e2 env F []) {a : Arg} {d : D} {S : List Nat} (r : ArgR h env a d S) (hS : ∀ n ∈ S, ∀ i, n ∉ F i) {g2 : Vl → M2 Vl} {g : D → EM D}
    (hfr : ∀ d, SimV (g2 (.fr d)) (fun _ => g d)) (hlv : ∀ v T, v.isFr = false → Own h v d T → g2 v e2 = .stuck ∨ ∃ x, g2 v e2 = .ok (.fr x) e2 ∧ g d h = .ok x h) : RelE h (fun n => n ∈ S ∨ UE F n) env Own (bnd2 (peek a) g2 e2) (g d h) := by
  unfold bnd2 peek
  cases e : getA1 e2 a with
  | none => trivial
  | some v =>
    dsimp only
    obtain ⟨T, o, s⟩ := getA1_own w r hS e
    show RelE h _ env Own (g2 v e2) (g d h)
    cases hv : v.isFr with
    | true =>
      cases v with
      | fr x =>
        obtain ⟨rfl, _⟩ := o.frz
        exact (hfr _ h e2 env F w).mono fun n u => .inr u
      | ls _ => cases hv
      | di _ => cases hv
      | ob _ _ => cases hv
    | false =>
      rcases hlv v T hv o with z | ⟨x, z1, z2⟩
      · rw [z]; trivial
      · rw [z1, z2]
        exact RelE.ret (S := []) (.fr x) w (by simp) (by simp) fun n u => u.elim (by simp) .inr
structure SimC (C2 : Cx2) (C : Ctx) : Prop where
  flds : C2.flds = C.flds
  fn : ∀ f n s2, C2.fn f n = some s2 → ∃ s, C.fn f n = some s ∧ SimF s2 s
  ini : ∀ c n s2, C2.ini c n = some s2 → ∃ s, C.ini c n = some s ∧ SimF s2 s
  mt : ∀ c m n s2, C2.mt c m n = some s2 → ∃ s, C.mt c m n = some s ∧ SimF s2 s
  pr : ∀ c f s2, C2.pr c f = some s2 → ∃ s, C.pr c f = some s ∧ SimF s2 s
  gd : ∀ x, C2.gd x = C.gd x
  fuel : C2.fuel = C.fuel
  cls : C2.cls = C.cls
  gvs : C2.gvs = C.gvs
  hasM : ∀ c m, C2.hasM c m = true → C.hasM c m = true
theorem frArgs {h : LH} {env : Env} : ∀ ds : List D, ArgL h env (ds.map fun d => .val (.fr d)) ds []
  | [] => .nil
  | d :: ds => .cons (.val (.fr d)) (frArgs ds) (by simp)
theorem callF {o2 : Option Sem2} {o : Option Sem} (q : ∀ s2, o2 = some s2 → ∃ s, o = some s ∧ SimF s2 s) (ds : List D) : SimV (callS o2 (ds.map fun d => .val (.fr d))) (fun _ => useD o ds) := fun h e2 env F w =>
  (callS_sim w (frArgs ds) (by simp) q).mono fun n u => u.elim (by simp) id
/-- a pure operation -/
theorem opS {m : EM D} (p : PO m) : SimV (bnd2 (lift2 (pureO m)) fun d => ret2 (.fr d)) (fun _ => m) := fun h e2 env F w => by
  have q := (SimP.bind (R' := Own) (g := fun a _ => ret a) p.sim fun a => SimV.fr a) h e2 env F w
  rw [bnd_pure] at q
  exact q
theorem PO.of_ite {α : Type} {c : Prop} [Decidable c] {a b : EM α} (ha : PO a) (hb : PO b) : PO (if c then a else b) := by split <;> assumption
theorem po_bin (o : BOp) (x y : D) : PO (binD o x y) := by unfold binD; (repeat' first | exact PO.ret _ | exact PO.stk | exact PO.guard _ | exact PO.ofO _ | exact PO.getC _ _ | (refine PO.bnd ?_ fun _ => ?_) | split)
theorem po_tru (x : D) : PO (truD x) := by unfold truD; (repeat' first | exact PO.ret _ | exact PO.stk | exact PO.guard _ | exact PO.ofO _ | exact PO.getC _ _ | (refine PO.bnd ?_ fun _ => ?_) | split)
theorem po_len (x : D) : PO (lenD x) := by unfold lenD; (repeat' first | exact PO.ret _ | exact PO.stk | exact PO.guard _ | exact PO.ofO _ | exact PO.getC _ _ | (refine PO.bnd ?_ fun _ => ?_) | split)
theorem po_max (o : Option (List Int)) : PO (maxO o) := by unfold maxO; (repeat' first | exact PO.ret _ | exact PO.stk | exact PO.guard _ | exact PO.ofO _ | exact PO.getC _ _ | (refine PO.bnd ?_ fun _ => ?_) | split)
theorem po_min (o : Option (List Int)) : PO (minO o) := by unfold minO; (repeat' first | exact PO.ret _ | exact PO.stk | exact PO.guard _ | exact PO.ofO _ | exact PO.getC _ _ | (refine PO.bnd ?_ fun _ => ?_) | split)
theorem po_int (n : Nat) (o : Option Int) : PO (intO n o) := by unfold intO; (repeat' first | exact PO.ret _ | exact PO.stk | exact PO.guard _ | exact PO.ofO _ | exact PO.getC _ _ | (refine PO.bnd ?_ fun _ => ?_) | split)
theorem po_all (o : Option (List Bool)) : PO (allO o) := by unfold allO; (repeat' first | exact PO.ret _ | exact PO.stk | exact PO.guard _ | exact PO.ofO _ | exact PO.getC _ _ | (refine PO.bnd ?_ fun _ => ?_) | split)
theorem po_any (o : Option (List Bool)) : PO (anyO o) := by unfold anyO; (repeat' first | exact PO.ret _ | exact PO.stk | exact PO.guard _ | exact PO.ofO _ | exact PO.getC _ _ | (refine PO.bnd ?_ fun _ => ?_) | split)
theorem po_repr (o : Option PyData) : PO (reprO o) := by unfold reprO; (repeat' first | exact PO.ret _ | exact PO.stk | exact PO.guard _ | exact PO.ofO _ | exact PO.getC _ _ | (refine PO.bnd ?_ fun _ => ?_) | split)
theorem po_blt1 (b : Blt) (x : D) : PO (blt1 b x) := by
  unfold blt1
  split <;> first | exact po_len _ | exact po_max _ | exact po_min _ | exact po_int _ _ | exact po_all _ | exact po_any _ | exact po_repr _ | (repeat' first | exact PO.ret _ | exact PO.stk | exact PO.guard _ | exact PO.ofO _ | exact PO.getC _ _ | (refine PO.bnd ?_ fun _ => ?_) | split)
theorem po_blt2 (b : Blt) (x y : D) : PO (blt2 b x y) := by unfold blt2; (repeat' first | exact PO.ret _ | exact PO.stk | exact PO.guard _ | exact PO.ofO _ | exact PO.getC _ _ | (refine PO.bnd ?_ fun _ => ?_) | split)
theorem po_blt3 (b : Blt) (x y z : D) : PO (blt3 b x y z) := by unfold blt3; (repeat' first | exact PO.ret _ | exact PO.stk | exact PO.guard _ | exact PO.ofO _ | exact PO.getC _ _ | (refine PO.bnd ?_ fun _ => ?_) | split)
theorem po_blt (b : Blt) (ds : List D) : PO (bltD b ds) := by
  unfold bltD
  split
  · exact po_blt1 _ _
  · exact po_blt2 _ _ _
  · exact po_blt3 _ _ _ _
  · exact PO.stk
theorem po_join (a : Str) (o : Option (List Str)) : PO (joinO a o) := by unfold joinO; (repeat' first | exact PO.ret _ | exact PO.stk | exact PO.guard _ | exact PO.ofO _ | exact PO.getC _ _ | (refine PO.bnd ?_ fun _ => ?_) | split)
theorem po_nat (o : Option Nat) : PO (natO o) := by unfold natO; (repeat' first | exact PO.ret _ | exact PO.stk | exact PO.guard _ | exact PO.ofO _ | exact PO.getC _ _ | (refine PO.bnd ?_ fun _ => ?_) | split)
theorem po_bmt (m : BMt) (x : D) (ds : List D) : PO (bmtD m x ds) := by
  unfold bmtD
  split
  · unfold bmt1
    split <;> first | exact po_join _ _ | ((repeat' first | exact PO.ret _ | exact PO.stk | exact PO.guard _ | exact PO.ofO _ | exact PO.getC _ _ | (refine PO.bnd ?_ fun _ => ?_) | split); done) | skip
    split
    · exact po_nat _
    · exact PO.stk
  · exact PO.stk
theorem po_kind (m : BMt) (x : D) : PO (kindD m x) := by unfold kindD; (repeat' first | exact PO.ret _ | exact PO.stk | exact PO.guard _ | exact PO.ofO _ | exact PO.getC _ _ | (refine PO.bnd ?_ fun _ => ?_) | split)
theorem po_key (kvs : List (L2.Key × D)) (o : Option L2.Key) : PO (keyO kvs o) := by unfold keyO; (repeat' first | exact PO.ret _ | exact PO.stk | exact PO.guard _ | exact PO.ofO _ | exact PO.getC _ _ | (refine PO.bnd ?_ fun _ => ?_) | split)
theorem po_idx (x y : D) : PO (idxD x y) := by unfold idxD; (repeat' first | exact PO.ret _ | exact PO.stk | exact PO.guard _ | exact PO.ofO _ | exact PO.getC _ _ | (refine PO.bnd ?_ fun _ => ?_) | split)
theorem po_slc (x : D) (a b : Option Int) : PO (slcD x a b) := by unfold slcD; (repeat' first | exact PO.ret _ | exact PO.stk | exact PO.guard _ | exact PO.ofO _ | exact PO.getC _ _ | (refine PO.bnd ?_ fun _ => ?_) | split)
theorem po_part (x : D) : PO (partD x) := by unfold partD; (repeat' first | exact PO.ret _ | exact PO.stk | exact PO.guard _ | exact PO.ofO _ | exact PO.getC _ _ | (refine PO.bnd ?_ fun _ => ?_) | split)
theorem po_its (x : D) : PO (itsD x) := by unfold itsD; (repeat' first | exact PO.ret _ | exact PO.stk | exact PO.guard _ | exact PO.ofO _ | exact PO.getC _ _ | (refine PO.bnd ?_ fun _ => ?_) | split)
theorem po_fmt (x : D) : PO (fmtD x) := by unfold fmtD; (repeat' first | exact PO.ret _ | exact PO.stk | exact PO.guard _ | exact PO.ofO _ | exact PO.getC _ _ | (refine PO.bnd ?_ fun _ => ?_) | split)
theorem po_enu (x : D) : PO (enuM x) := by unfold enuM; (repeat' first | exact PO.ret _ | exact PO.stk | exact PO.guard _ | exact PO.ofO _ | exact PO.getC _ _ | (refine PO.bnd ?_ fun _ => ?_) | split)
theorem po_rng (x : D) : PO (rngM x) := by unfold rngM; (repeat' first | exact PO.ret _ | exact PO.stk | exact PO.guard _ | exact PO.ofO _ | exact PO.getC _ _ | (refine PO.bnd ?_ fun _ => ?_) | split)
theorem po_rng2 (x y : D) : PO (rng2M x y) := by unfold rng2M; (repeat' first | exact PO.ret _ | exact PO.stk | exact PO.guard _ | exact PO.ofO _ | exact PO.getC _ _ | (refine PO.bnd ?_ fun _ => ?_) | split)
theorem po_rng3 (c : Int) (x y : D) : PO (rng3M c x y) := by unfold rng3M; (repeat' first | exact PO.ret _ | exact PO.stk | exact PO.guard _ | exact PO.ofO _ | exact PO.getC _ _ | (refine PO.bnd ?_ fun _ => ?_) | split)
theorem po_zip (x y : D) : PO (zipM x y) := by
  unfold zipM
  exact PO.bnd (po_its _) fun _ => PO.bnd (po_its _) fun _ => PO.ret _
end SX
end
section
set_option Elab.async false
set_option linter.all false
set_option maxRecDepth 100000
set_option maxHeartbeats 4000000
/-! VS5: the operations of expressions on both sides. -/
namespace SX
open PySem
section
variable {C2 : Cx2} {C : Ctx} (SC : SimC C2 C)
include SC
theorem add_sim (o : BOp) (x y : D) : SimV (addX2 C2 o x y) (fun _ => addX C o x y) := by
  cases o <;> cases x <;> first | exact opS (po_bin _ _ _) | exact SimP.bind (SimP.guard _) fun _ => callF (SC.mt _ _ _) [_, _]
theorem asBl_sim {m2 : M2 Vl} {m : Env → EM D} (p : SimV m2 m) : SimP (bnd2 m2 asBl2) (fun env => bnd (m env) asBl) :=
  SimM.bind p fun a b h S F e2 env r w d l => by
    unfold asBl2
    split
    · obtain ⟨rfl, rfl⟩ := r.frz
      exact (SimP.ret _ h e2 env F w).mono fun n u => .inr u
    · trivial
theorem eq_sim (c : Nat) (a b : D) : SimP (eqX2 C2 c a b) (fun _ => eqX C c a b) := by
  unfold eqX2 eqX
  exact SimP.bind (SimP.guard _) fun _ => asBl_sim SC (SimM.noEx (callF (SC.mt _ _ _) [_, _]))
theorem cmp_sim (o : COp) (a b : D) : SimP (cmpX2 C2 o a b) (fun _ => cmpX C o a b) := by
  rcases (by cases a <;> first | exact .inr ⟨_, _, rfl⟩ | exact .inl (fun _ _ h => by cases h) : (∀ c fs, a ≠ .obj c fs) ∨ ∃ c fs, a = .obj c fs) with h | ⟨c, fs, rfl⟩
  · have e1 : cmpX2 C2 o a b = lift2 (cmpD o a b) := by
      unfold cmpX2
      split
      · exact absurd rfl (h _ _)
      · exact absurd rfl (h _ _)
      · rfl
    have e2 : cmpX C o a b = ofO (cmpD o a b) := by
      unfold cmpX
      split
      · exact absurd rfl (h _ _)
      · exact absurd rfl (h _ _)
      · rfl
    rw [e1, e2]
    exact SimP.lift _
  · cases o
    · exact eq_sim SC _ _ _
    · exact SimP.bind (eq_sim SC _ _ _) fun _ => SimP.ret _
    · exact SimP.lift (cmpD .lt (.obj c fs) b)
    · exact SimP.lift (cmpD .le (.obj c fs) b)
    · exact SimP.lift (cmpD .gt (.obj c fs) b)
    · exact SimP.lift (cmpD .ge (.obj c fs) b)
    · exact SimP.lift (cmpD .isN (.obj c fs) b)
    · exact SimP.lift (cmpD .notN (.obj c fs) b)
    · exact SimP.lift (cmpD .isin (.obj c fs) b)
    · exact SimP.lift (cmpD .notin (.obj c fs) b)
theorem toLen_sim {m2 : M2 Vl} {m : Env → EM D} (p : SimV m2 m) : SimV (bnd2 m2 toLen) (fun env => bnd (m env) fun r => match r with
    | .int n => bnd (guard' (decide (0 ≤ n) && decide (n < 2 ^ 63))) fun _ => ret (.int n)
    | _ => stk) :=
  SimM.bind p fun a b h S F e2 env r w d l => by
    unfold toLen
    split
    · obtain ⟨rfl, rfl⟩ := r.frz
      exact ((SimP.bind (g := fun _ _ => ret _) (SimP.guard _) fun _ => SimV.fr _) h e2 env F w).mono fun n u => .inr u
    · trivial
theorem len_sim (b : Blt) (ds : List D) : SimV (lenX2 C2 b ds) (fun _ => lenX C b ds) := by
  cases b <;> first | exact opS (po_blt _ _) | skip
  rcases ds with _ | ⟨x, _ | ⟨y, l⟩⟩
  · exact opS (po_blt _ _)
  · cases x <;> first | exact opS (po_blt _ _) | exact toLen_sim SC (SimM.noEx (callF (SC.mt _ _ _) [_]))
  · cases x <;> exact opS (po_blt .len (_ :: y :: l))
theorem idx_sim (x y : D) : SimV (idxX2 C2 x y) (fun _ => idxX C x y) := by
  cases x <;> first | exact opS (po_idx _ _) | exact callF (SC.mt _ _ _) [_, _]
theorem isi_sim (ts : List TyN) (x : D) : SimV (isiX2 C2 ts x) (fun _ => isiX C ts x) := by
  have e1 : clsOk2 C2 x = clsOk C x := by cases x <;> first | rfl | (show C2.cls.contains _ = C.cls.contains _; rw [SC.cls])
  have e2 : tyOk2 C2 = tyOk C := by funext t; cases t <;> first | rfl | (show C2.cls.contains _ = C.cls.contains _; rw [SC.cls])
  unfold isiX2 isiX
  rw [e1, e2]
  exact SimP.bind (SimP.guard _) fun _ => SimP.bind (SimP.lift _) fun _ => SimV.fr _
theorem gin_sim (x : Nat) (neg : Bool) (d : D) : SimV (ginX2 C2 x neg d) (fun _ => ginX C x neg d) := by
  cases d <;> first | exact SimM.stk | skip
  unfold ginX2 ginX
  dsimp only
  rw [SC.gd]
  exact SimP.bind (SimP.lift _) fun _ => SimV.fr _
theorem liftV_sim (o : Option D) : SimV (bnd2 (lift2 o) fun d => ret2 (.fr d)) (fun _ => ofO o) := by
  cases o
  · exact SimM.stk
  · exact SimV.fr _
theorem gix_sim (x : Nat) (d : D) : SimV (gixX2 C2 x d) (fun _ => gixX C x d) := by
  cases d <;> first | exact SimM.stk | skip
  unfold gixX2 gixX
  dsimp only
  rw [SC.gd]
  exact SimP.bind (SimP.lift _) fun _ => liftV_sim SC _
/-! reading what a name holds -/
theorem idx_peek {h : LH} {e2 : VE} {env : Env} {F : Nat → List Nat} (w : EOwn h e2 env F []) {a : Arg} {d : D} {S : List Nat} (r : ArgR h env a d S) (hS : ∀ n ∈ S, ∀ i, n ∉ F i) (y : D) :
    RelE h (fun n => n ∈ S ∨ UE F n) env Own (bnd2 (peek a) (idxV C2 y) e2) (idxX C d y h) := by
  refine peek_rel w r hS (g := fun d => idxX C d y) (fun d => idx_sim SC d y) fun v T hv o => ?_
  cases o with
  | fr _ => cases hv
  | ls n l e =>
    show idxV C2 y (.ls l) e2 = .stuck ∨ ∃ x, idxV C2 y (.ls l) e2 = .ok (.fr x) e2 ∧ bnd (getC n) (fun c => idxC c y) h = .ok x h
    rw [bnd_of (getC_of e)]
    cases y <;> first | exact .inl rfl | skip
    rename_i i
    show bnd2 (lift2 (atD l i)) (fun d => ret2 (Vl.fr d)) e2 = .stuck ∨ ∃ x, bnd2 (lift2 (atD l i)) (fun d => ret2 (Vl.fr d)) e2 = .ok (Vl.fr x) e2 ∧ ofO (atD l i) h = .ok x h
    cases atD l i
    · exact .inl rfl
    · exact .inr ⟨_, rfl, rfl⟩
  | di n kvs kds S e ok q =>
    show idxV C2 y (.di kvs) e2 = .stuck ∨ ∃ x, idxV C2 y (.di kvs) e2 = .ok (.fr x) e2 ∧ bnd (getC n) (fun c => idxC c y) h = .ok x h
    rw [bnd_of (getC_of e)]
    show (match keyD y with
      | some k => bnd2 (lift2 (frO (valV kvs k))) fun d => ret2 (Vl.fr d)
      | none => stk2) e2 = .stuck ∨ ∃ x, (match keyD y with
      | some k => bnd2 (lift2 (frO (valV kvs k))) fun d => ret2 (Vl.fr d)
      | none => stk2) e2 = .ok (.fr x) e2 ∧ keyO kds (keyD y) h = .ok x h
    cases keyD y with
    | none => exact .inl rfl
    | some k =>
      dsimp only [keyO]
      cases ev : valV kvs k with
      | none => exact .inl rfl
      | some u =>
        cases u <;> first | exact .inl rfl | skip
        rw [ok.val ev]
        exact .inr ⟨_, rfl, rfl⟩
  | ob n c vs ds S e ok q => exact .inl rfl
theorem slc_peek {h : LH} {e2 : VE} {env : Env} {F : Nat → List Nat} (w : EOwn h e2 env F []) {a : Arg} {d : D} {S : List Nat} (r : ArgR h env a d S) (hS : ∀ n ∈ S, ∀ i, n ∉ F i) (lo hi : Option Int) :
    RelE h (fun n => n ∈ S ∨ UE F n) env Own (bnd2 (peek a) (slcV lo hi) e2) (slcD d lo hi h) := by
  refine peek_rel w r hS (g := fun d => slcD d lo hi) (fun d => opS (po_slc d lo hi)) fun v T hv o => ?_
  cases o with
  | fr _ => cases hv
  | ls n l e =>
    right
    refine ⟨_, rfl, ?_⟩
    show bnd (getC n) (slcC lo hi) h = _
    rw [bnd_of (getC_of e)]
    rfl
  | di n kvs kds S e ok q => exact .inl rfl
  | ob n c vs ds S e ok q => exact .inl rfl
theorem len_peek {h : LH} {e2 : VE} {env : Env} {F : Nat → List Nat} (w : EOwn h e2 env F []) {a : Arg} {d : D} {S : List Nat} (r : ArgR h env a d S) (hS : ∀ n ∈ S, ∀ i, n ∉ F i) :
    RelE h (fun n => n ∈ S ∨ UE F n) env Own (bnd2 (peek a) (lenV C2) e2) (lenX C .len [d] h) := by
  refine peek_rel w r hS (g := fun d => lenX C .len [d]) (fun d => len_sim SC .len [d]) fun v T hv o => ?_
  cases o with
  | fr _ => cases hv
  | ls n l e =>
    right
    refine ⟨_, rfl, ?_⟩
    show bnd (getC n) lenC h = _
    rw [bnd_of (getC_of e)]
    rfl
  | di n kvs kds S e ok q => exact .inl rfl
  | ob n c vs ds S e ok q => exact .inl rfl
theorem prop_sim {h : LH} {e2 : VE} {env : Env} {F : Nat → List Nat} (w : EOwn h e2 env F []) {a : Arg} {d : D} {S : List Nat} (r : ArgR h env a d S) (hS : ∀ n ∈ S, ∀ i, n ∉ F i) (c f : Nat) :
    RelE h (fun n => n ∈ S ∨ UE F n) env Own (noEx2 (callS (C2.pr c f) [a]) e2) (noEx (useD (C.pr c f) [d]) h) := by
  have al : ArgL h env [a] [d] (S ++ []) := .cons r .nil (by simp)
  have p := callS_sim (o2 := C2.pr c f) (o := C.pr c f) w al (by simpa using hS) (SC.pr c f)
  rw [List.append_nil] at p
  unfold noEx2
  show RelE h _ env Own ((callS (C2.pr c f) [a] e2).noEx) (SX.noEx (useD (C.pr c f) [d]) h)
  unfold SX.noEx
  generalize callS (C2.pr c f) [a] e2 = r2 at p
  cases r2 with
  | stuck => trivial
  | ex x e => trivial
  | ok v e =>
    obtain ⟨b, h', T, F', e, q1⟩ := p
    rw [e]
    exact ⟨b, h', T, F', rfl, q1⟩
theorem att_peek {h : LH} {e2 : VE} {env : Env} {F : Nat → List Nat} (w : EOwn h e2 env F []) {a : Arg} {d : D} {S : List Nat} (r : ArgR h env a d S) (hS : ∀ n ∈ S, ∀ i, n ∉ F i) (f : Nat) :
    RelE h (fun n => n ∈ S ∨ UE F n) env Own (bnd2 (peek a) (attV C2 f a) e2) (attX C f d h) := by
  unfold bnd2 peek
  cases e : getA1 e2 a with
  | none => trivial
  | some v =>
    dsimp only
    obtain ⟨T, o, s⟩ := getA1_own w r hS e
    show RelE h _ env Own (attV C2 f a v e2) (attX C f d h)
    cases o with
    | fr x =>
      cases d <;> first | trivial | skip
      rename_i c fs
      show RelE h _ env Own ((match (C2.flds c).idxOf? f with
        | some j => bnd2 (lift2 fs[j]?) fun d => ret2 (Vl.fr d)
        | none => noEx2 (callS (C2.pr c f) [.val (.fr (.obj c fs))])) e2) (attD C f (.obj c fs) c fs h)
      unfold attD
      rw [SC.flds]
      cases (C.flds c).idxOf? f with
      | some j => exact (liftV_sim SC _ h e2 env F w).mono fun n u => .inr u
      | none => exact ((SimM.noEx (callF (SC.pr c f) [.obj c fs])) h e2 env F w).mono fun n u => .inr u
    | ls n l e => trivial
    | di n kvs kds S e ok q => trivial
    | ob n c vs ds S e1 ok q =>
      show RelE h _ env Own ((match (C2.flds c).idxOf? f with
        | some j => bnd2 (lift2 (frO vs[j]?)) fun d => ret2 (Vl.fr d)
        | none => noEx2 (callS (C2.pr c f) [a])) e2) (bnd (getC n) _ h)
      rw [bnd_of (getC_of e1)]
      show RelE h _ env Own _ (attD C f (.ref n) c ds h)
      unfold attD
      rw [SC.flds]
      cases (C.flds c).idxOf? f with
      | some j =>
        dsimp only
        cases ej : vs[j]? with
        | none => trivial
        | some u =>
          cases u <;> first | trivial | skip
          rw [OwnL.get j ok ej]
          exact RelE.ret (S := []) (Own.fr _) w (by simp) (by simp) fun n u => u.elim (by simp) .inr
      | none => exact prop_sim SC w r hS c f
end
theorem cls_peek {h : LH} {e2 : VE} {env : Env} {F : Nat → List Nat} (w : EOwn h e2 env F []) {a : Arg} {d : D} {S : List Nat} (r : ArgR h env a d S) (hS : ∀ n ∈ S, ∀ i, n ∉ F i) :
    bnd2 (peek a) clsV e2 = .stuck ∨ ∃ c, bnd2 (peek a) clsV e2 = .ok c e2 ∧ clsOf d h = .ok c h := by
  unfold bnd2 peek
  cases e : getA1 e2 a with
  | none => exact .inl rfl
  | some v =>
    obtain ⟨T, o, s⟩ := getA1_own w r hS e
    show clsV v e2 = .stuck ∨ ∃ c, clsV v e2 = .ok c e2 ∧ clsOf d h = .ok c h
    cases o with
    | fr x => cases d <;> first | exact .inl rfl | exact .inr ⟨_, rfl, rfl⟩
    | ls n l e => exact .inl rfl
    | di n kvs kds S e ok q => exact .inl rfl
    | ob n c vs ds S e1 ok q =>
      right
      refine ⟨c, rfl, ?_⟩
      show bnd (getC n) _ h = _
      rw [bnd_of (getC_of e1)]
      rfl
/-- freezing -/
theorem frz_run {h : LH} {v : Vl} {d x : D} {S : List Nat} (o : Own h v d S) (e : frzd v = some x) : ∃ h', frzC d h = .ok x h' ∧ h'.length = h.length ∧ ∀ n, n ∉ S → h'[n]? = h[n]? := by
  cases o with
  | fr _ =>
    have e' : (if d.isRef then none else some d) = some x := e
    by_cases q : d.isRef = true
    · rw [if_pos q] at e'; cases e'
    · rw [if_neg q] at e'
      cases e'
      refine ⟨h, ?_, rfl, fun _ _ => rfl⟩
      cases d <;> first | rfl | (exact absurd rfl q)
  | ls n l e1 =>
    cases e
    refine ⟨h.set n none, ?_, by simp, fun m hm => List.getElem?_set_ne fun z => hm (by rw [z]; exact List.mem_singleton.mpr rfl)⟩
    unfold frzC
    dsimp only
    rw [e1]
    rfl
  | di n kvs kds S e1 ok q =>
    have e : (frsD (kvs.map (·.2))).map (fun ds => D.dic (kvs.map (·.1)) ds) = some x := e
    cases e2 : frsD (kvs.map (·.2)) with
    | none => rw [e2] at e; cases e
    | some l =>
      rw [e2] at e
      cases e
      obtain ⟨q1, q2, q3⟩ := ok.frs e2
      refine ⟨h.set n none, ?_, by simp, fun m hm => List.getElem?_set_ne fun z => hm (by rw [z]; exact List.mem_cons_self)⟩
      unfold frzC
      dsimp only
      rw [e1]
      show Res.ok (D.dic (kds.map (·.1)) (kds.map (·.2))) _ = _
      rw [q1, q2]
  | ob n c vs ds S e1 ok q =>
    have e : (frsD vs).map (fun ds => D.obj c ds) = some x := e
    cases e2 : frsD vs with
    | none => rw [e2] at e; cases e
    | some l =>
      rw [e2] at e
      cases e
      obtain ⟨q1, q2⟩ := ok.frs e2
      refine ⟨h.set n none, ?_, by simp, fun m hm => List.getElem?_set_ne fun z => hm (by rw [z]; exact List.mem_cons_self)⟩
      unfold frzC
      dsimp only
      rw [e1]
      show Res.ok (D.obj c ds) _ = _
      rw [q1]
theorem frz_rel {h : LH} {e2 : VE} {env : Env} {F : Nat → List Nat} (w : EOwn h e2 env F []) {v : Vl} {d : D} {S : List Nat} (o : Own h v d S) (hS : ∀ n ∈ S, ∀ i, n ∉ F i) : RelE h (fun n => n ∈ S ∨ UE F n) env Own (frzM v e2) (frzC d h) := by
  unfold frzM
  cases e : frzd v with
  | none => trivial
  | some x =>
    obtain ⟨h', e1, hl, fr⟩ := frz_run o e
    refine ⟨x, h', [], F, e1, Own.fr x, w.fram (by omega) fun i n hn => fr n fun z => hS n z i hn, by simp, by simp, ⟨by omega, fun n hn u => fr n fun z => u (.inl z), fun n u => .inl (.inr (u.elim (by simp) id))⟩⟩
theorem take_sim (i : Nat) : SimV (takeV i) (fun env => getE env i) := fun h e2 env F w => by
  unfold takeV
  cases e : e2[i]? with
  | none => trivial
  | some o =>
    cases o with
    | none => trivial
    | some v =>
      obtain ⟨d, e1, ov⟩ := w.own i v (by simp) e
      dsimp only
      rw [getE_of e1]
      have live : RelE h (UE F) env Own (.ok v (e2.set i none)) (ret d h) := by
        have w2 : EOwn h (e2.set i none) env (upF F i []) [] := (w.more (Y := [i]) (by simp)).put (by simp) (by simp) (by simp)
        refine RelE.ret ov w2 (fun n hn j hj => ?_) ov.lt fun n u => u.elim (fun z => ⟨i, z⟩) fun z => (UE_up z).elim (by simp) id
        by_cases q : j = i
        · rw [q, upF_same] at hj; cases hj
        · rw [upF_ne q] at hj
          exact w.dis i j (fun z => q z.symm) n hn hj
      cases v with
      | fr x =>
        obtain ⟨rfl, _⟩ := ov.frz
        exact RelE.ret (S := []) (Own.fr _) w (by simp) (by simp) fun n u => u.elim (by simp) id
      | ls _ => exact live
      | di _ => exact live
      | ob _ _ => exact live
theorem frzV_sim (i : Nat) : SimV (frzV i) (fun env => bnd (getE env i) frzC) := fun h e2 env F w => by
  unfold frzV
  cases e : e2[i]? with
  | none => trivial
  | some o =>
    cases o with
    | none => trivial
    | some v =>
      obtain ⟨d, e1, ov⟩ := w.own i v (by simp) e
      dsimp only
      rw [getE_of e1]
      show RelE h (UE F) env Own _ (frzC d h)
      have live : ∀ x, frzd v = some x → RelE h (UE F) env Own (.ok (.fr x) (e2.set i none)) (frzC d h) := fun x ex => by
        obtain ⟨h', e3, hl, fr⟩ := frz_run ov ex
        have w2 : EOwn h (e2.set i none) env (upF F i []) [] := (w.more (Y := [i]) (by simp)).put (by simp) (by simp) (by simp)
        refine ⟨x, h', [], upF F i [], e3, Own.fr x, w2.fram (by omega) fun j n hn => fr n fun z => ?_, by simp, by simp, ⟨by omega, fun n hn u => fr n fun z => u ⟨i, z⟩, fun n u => .inl (u.elim (by simp) fun z => (UE_up z).elim (by simp) id)⟩⟩
        by_cases q : j = i
        · rw [q, upF_same] at hn; cases hn
        · rw [upF_ne q] at hn
          exact w.dis i j (fun z => q z.symm) n z hn
      cases v with
      | fr x =>
        obtain ⟨rfl, _⟩ := ov.frz
        dsimp only
        by_cases q : d.isRef = true
        · rw [if_pos q]; trivial
        · rw [if_neg q]
          have : frzC d h = .ok d h := by cases d <;> first | rfl | (exact absurd rfl q)
          rw [this]
          exact RelE.ret (S := []) (Own.fr _) w (by simp) (by simp) fun n u => u.elim (by simp) id
      | ls l => exact live _ rfl
      | di kvs =>
        dsimp only
        cases ex : frzd (.di kvs) with
        | none => trivial
        | some x => exact live x ex
      | ob c fs =>
        dsimp only
        cases ex : frzd (.ob c fs) with
        | none => trivial
        | some x => exact live x ex
/-- a change of what a name holds -/
theorem upd_rel {h : LH} {e2 : VE} {env : Env} {F : Nat → List Nat} (w : EOwn h e2 env F []) {S : List Nat} (hS : ∀ n ∈ S, ∀ i, n ∉ F i) {j : Nat} {g : Vl → Option Vl} {d : D} (ed : env[j]? = some (some d)) {op : EM Unit}
    (hop : ∀ v u T, Own h v d T → (∀ n ∈ S, n ∉ T) → g v = some u → ∃ n c0 c T', n ∈ T ∧ h[n]? = some (some c0) ∧ op h = .ok () (h.set n (some c)) ∧ Own (h.set n (some c)) u d T' ∧ ∀ m ∈ T', m ∈ T ∨ m ∈ S) :
    updV j g e2 = .stuck ∨ ∃ e2' h' F', updV j g e2 = .ok () e2' ∧ op h = .ok () h' ∧ EOwn h' e2' env F' [] ∧ Step h (fun n => n ∈ S ∨ UE F n) h' (UE F') := by
  unfold updV
  cases e : e2[j]? with
  | none => exact .inl rfl
  | some o =>
    cases o with
    | none => exact .inl rfl
    | some v =>
      dsimp only
      cases eg : g v with
      | none => exact .inl rfl
      | some u =>
        right
        obtain ⟨d', e1, ov⟩ := w.own j v (by simp) e
        rw [ed] at e1
        cases e1
        obtain ⟨n, c0, c, T', hn, en, eo, ou, s⟩ := hop v u (F j) ov (fun n hn => hS n hn j) eg
        have fr : ∀ m, m ≠ n → (h.set n (some c))[m]? = h[m]? := fun m hm => List.getElem?_set_ne fun z => hm z.symm
        have hT : ∀ m ∈ T', ∀ k, k ≠ j → m ∉ F k := fun m hm k hk z => by
          rcases s m hm with y | y
          · exact w.dis j k (fun q => hk q.symm) m y z
          · exact hS m y k z
        have w1 : EOwn (h.set n (some c)) e2 env (upF F j []) [j] := by
          have w0 : EOwn h e2 env (upF F j []) [j] := ⟨w.len, fun i m hm => by
            by_cases q : i = j
            · rw [q, upF_same] at hm; cases hm
            · rw [upF_ne q] at hm; exact w.lt i m hm, fun i v hi e => by
            have q : i ≠ j := by simpa using hi
            rw [upF_ne q]
            exact w.own i v (by simp) e, fun a b hab m hm hb => by
            by_cases q : a = j
            · rw [q, upF_same] at hm; cases hm
            · rw [upF_ne q] at hm
              by_cases r : b = j
              · rw [r, upF_same] at hb; cases hb
              · rw [upF_ne r] at hb; exact w.dis a b hab m hm hb⟩
          refine w0.fram (by simp) fun i m hm => fr m fun z => ?_
          subst z
          by_cases q : i = j
          · rw [q, upF_same] at hm; cases hm
          · rw [upF_ne q] at hm
            exact w.dis i j q m hm hn
        have w2 := w1.put (X := []) (o := some u) (S := T') (fun v e => by cases e; exact ⟨d, ed, ou⟩) ou.lt fun m hm k hk z => by
          rw [upF_ne hk] at z
          exact hT m hm k hk z
        refine ⟨_, _, _, rfl, eo, w2, ⟨by simp, fun m hm q => fr m fun z => q (.inr ⟨j, z ▸ hn⟩), fun m q => .inl ?_⟩⟩
        rcases UE_up q with y | y
        · rcases s m y with y | y
          · exact .inr ⟨j, y⟩
          · exact .inl y
        · exact (UE_up y).elim (by simp) .inr
end SX
end
section
set_option Elab.async false
set_option linter.all false
set_option maxRecDepth 100000
set_option maxHeartbeats 4000000
/-! VS6: comprehensions and stores on both sides. -/
namespace SX
open PySem
def RelT (h : LH) (U : Nat → Prop) (env : Env) (T : List Nat) : R2 Unit → Res Env → Prop
  | .ok _ e2, r => ∃ env1 h' F, r = .ok env1 h' ∧ EOwn h' e2 env1 F [] ∧ Step h U h' (UE F) ∧ (∀ i, i ∉ T → env1[i]? = env[i]?) ∧ env1.length = env.length
  | _, _ => True
def TSim (m2 : Vl → M2 Unit) (m : D → Env → EM Env) (T : List Nat) : Prop := ∀ h e2 env F v d S, EOwn h e2 env F [] → Own h v d S → (∀ n ∈ S, ∀ i, n ∉ F i) → RelT h (fun n => n ∈ S ∨ UE F n) env T (m2 v e2) (m d env h)
def wipeL : List Nat → VE → VE
  | [], e => e
  | v :: vs, e => (wipeL vs e).set v none
theorem wipe2_eq : ∀ (vs : List Nat) (e : VE), wipe2 vs e = .ok () (wipeL vs e)
  | [], e => rfl
  | v :: vs, e => by
    unfold wipe2 bnd2
    rw [wipe2_eq vs e]
    rfl
theorem wipeL_len : ∀ (vs : List Nat) (e : VE), (wipeL vs e).length = e.length
  | [], e => rfl
  | v :: vs, e => by unfold wipeL; rw [List.length_set, wipeL_len vs e]
theorem wipeE_len (env : Env) : ∀ (vs : List Nat), (wipeE env vs).length = env.length
  | [] => rfl
  | v :: vs => by unfold wipeE; rw [List.length_set, wipeE_len env vs]
theorem wipeL_in {i : Nat} : ∀ (vs : List Nat) (e : VE) (v : Vl), i ∈ vs → (wipeL vs e)[i]? ≠ some (some v)
  | [], e, v, h => by cases h
  | a :: vs, e, v, h => by
    unfold wipeL
    by_cases q : i = a
    · subst q
      rw [List.getElem?_set]
      simp only [ite_true]
      split <;> simp
    · rw [List.getElem?_set_ne (fun z => q z.symm)]
      exact wipeL_in vs e v ((List.mem_cons.mp h).resolve_left q)
theorem wipeL_out {i : Nat} : ∀ (vs : List Nat) (e : VE), i ∉ vs → (wipeL vs e)[i]? = e[i]?
  | [], e, h => rfl
  | a :: vs, e, h => by
    unfold wipeL
    rw [List.getElem?_set_ne (fun z : a = i => h (by rw [← z]; exact List.mem_cons_self)), wipeL_out vs e fun z => h (List.mem_cons_of_mem _ z)]
theorem wipeE_out {i : Nat} (env : Env) : ∀ (vs : List Nat), i ∉ vs → (wipeE env vs)[i]? = env[i]?
  | [], h => rfl
  | a :: vs, h => by
    unfold wipeE
    rw [List.getElem?_set_ne (fun z : a = i => h (by rw [← z]; exact List.mem_cons_self)), wipeE_out env vs fun z => h (List.mem_cons_of_mem _ z)]
theorem rest2_len (e0 : VE) : ∀ (vs : List Nat) (e : VE), (rest2 e0 vs e).length = e.length
  | [], e => rfl
  | v :: vs, e => by
    unfold rest2
    rw [rest2_len e0 vs]
    split
    · rw [List.length_set]
    · rfl
theorem rest2_out {i : Nat} (e0 : VE) : ∀ (vs : List Nat) (e : VE), i ∉ vs → (rest2 e0 vs e)[i]? = e[i]?
  | [], e, h => rfl
  | a :: vs, e, h => by
    unfold rest2
    rw [rest2_out e0 vs _ fun z => h (List.mem_cons_of_mem _ z)]
    split
    · rw [List.getElem?_set_ne (fun z : a = i => h (by rw [← z]; exact List.mem_cons_self))]
    · rfl
theorem rest2_in {i : Nat} (e0 : VE) : ∀ (vs : List Nat) (e : VE), e0.length = e.length → i ∈ vs → (rest2 e0 vs e)[i]? = e0[i]?
  | [], e, _, h => by cases h
  | a :: vs, e, hl, h => by
    unfold rest2
    by_cases q : i ∈ vs
    · refine rest2_in e0 vs _ ?_ q
      split
      · rw [List.length_set]; exact hl
      · exact hl
    · rw [rest2_out e0 vs _ q]
      have : i = a := (List.mem_cons.mp h).resolve_right q
      subst this
      cases e1 : e0[i]? with
      | none =>
        dsimp only
        rw [List.getElem?_eq_none_iff] at e1 ⊢
        omega
      | some o =>
        dsimp only
        rcases List.getElem?_eq_some_iff.mp e1 with ⟨z, _⟩
        rw [List.getElem?_set]
        simp only [ite_true]
        rw [if_pos (by omega)]
theorem keepFr_in {e0 : VE} {i : Nat} {v : Vl} : ∀ {vs : List Nat}, keepFr e0 vs = true → i ∈ vs → e0[i]? = some (some v) → ∃ d, v = .fr d
  | [], _, h, _ => by cases h
  | a :: vs, hk, h, e => by
    unfold keepFr at hk
    rw [Bool.and_eq_true] at hk
    by_cases q : i = a
    · subst q
      have := hk.1
      rw [e] at this
      cases v with
      | fr d => exact ⟨d, rfl⟩
      | ls _ => cases this
      | di _ => cases this
      | ob _ _ => cases this
    · exact keepFr_in hk.2 ((List.mem_cons.mp h).resolve_left q) e
theorem EOwn.wipe {h : LH} {e2 : VE} {envL env : Env} {F : Nat → List Nat} {own : List Nat} (w : EOwn h e2 envL F []) (ag : ∀ i, i ∉ own → envL[i]? = env[i]?) (hl : envL.length = env.length) : EOwn h (wipeL own e2) (wipeE env own) F [] where
  len := by rw [wipeL_len, wipeE_len, w.len, hl]
  lt := w.lt
  own := fun i v _ e => by
    by_cases q : i ∈ own
    · exact absurd e (wipeL_in own e2 v q)
    · rw [wipeL_out own e2 q] at e
      rw [wipeE_out env own q, ← ag i q]
      exact w.own i v (by simp) e
  dis := w.dis
theorem EOwn.rest {h h' : LH} {e0 e' : VE} {env env' : Env} {F0 F : Nat → List Nat} {own : List Nat} (w0 : EOwn h e0 env F0 []) (w : EOwn h' e' env' F []) (ag : ∀ i, i ∉ own → env'[i]? = env[i]?) (hl : env'.length = env.length) (hk : keepFr e0 own = true) : ∃ F', EOwn h' (rest2 e0 own e') env F' [] ∧ ∀ i n, n ∈ F' i → n ∈ F i := by
  have sub : ∀ i n, n ∈ (if own.contains i = true then [] else F i) → n ∈ F i := fun i n hn => by
    split at hn
    · cases hn
    · exact hn
  refine ⟨fun j => if own.contains j = true then [] else F j, ⟨by rw [rest2_len, w.len, hl], fun i n hn => w.lt i n (sub i n hn), fun i v _ e => ?_, fun i j hij n hn hj => w.dis i j hij n (sub i n hn) (sub j n hj)⟩, sub⟩
  · by_cases q : i ∈ own
    · rw [rest2_in e0 own e' (by rw [w0.len, w.len, hl]) q] at e
      obtain ⟨d, rfl⟩ := keepFr_in hk q e
      obtain ⟨d', e1, o⟩ := w0.own i _ (by simp) e
      obtain ⟨rfl, _⟩ := o.frz
      rw [if_pos (by rw [List.contains_eq_mem]; exact decide_eq_true q)]
      exact ⟨_, e1, .fr _⟩
    · rw [rest2_out e0 own e' q] at e
      rw [if_neg (by rw [List.contains_eq_mem]; simpa using q), ← ag i q]
      exact w.own i v (by simp) e
section
variable {mi2 : M2 (List D)} {mi : Env → EM (List D)} {mt2 : Vl → M2 Unit} {mt : D → Env → EM Env} {mc2 : M2 Bool} {mc : Env → EM Bool} {me2 : M2 D} {me : Env → EM D} {T own : List Nat}
theorem turn_rel (ht : TSim mt2 mt T) (hT : ∀ x ∈ T, x ∈ own) (hc : SimP mc2 mc) (he : SimP me2 me) {h : LH} {e2 : VE} {envL env : Env} {F : Nat → List Nat} (w : EOwn h e2 envL F []) (ag : ∀ i, i ∉ own → envL[i]? = env[i]?) (hl : envL.length = env.length) (d : D) {o : Option D} {e2' : VE} (er : turn2 own mt2 mc2 me2 d e2 = .ok o e2') :
    ∃ env1 h' F', turnM mt mc me (wipeE env own) d h = .ok o h' ∧ EOwn h' e2' env1 F' [] ∧ Step h (UE F) h' (UE F') ∧ (∀ i, i ∉ own → env1[i]? = env[i]?) ∧ env1.length = env.length := by
  have w1 := w.wipe ag hl
  unfold turn2 bnd2 at er
  rw [wipe2_eq] at er
  have p := ht h (wipeL own e2) (wipeE env own) F (.fr d) d [] w1 (.fr d) (by simp)
  have er : (mt2 (.fr d) (wipeL own e2)).bnd (fun _ => bnd2 mc2 fun k => if k = true then bnd2 me2 fun y => ret2 (some y) else ret2 none) = .ok o e2' := er
  cases e1 : mt2 (.fr d) (wipeL own e2) with
  | stuck => rw [e1] at er; cases er
  | ex x e => rw [e1] at er; cases er
  | ok u e3 =>
    rw [e1] at er p
    obtain ⟨env1, h1, F1, q1, q2, q3, q4, q5⟩ := p
    have q := SimP.bind (R' := RP) (f := fun k => if k = true then bnd2 me2 fun y => ret2 (some y) else ret2 none) (g := fun k env => if k = true then bnd (me env) fun y => ret (some y) else ret none) hc (fun k => by
      cases k
      · exact SimP.ret none
      · exact SimP.bind (g := fun y _ => ret (some y)) he fun y => SimP.ret _) h1 e3 env1 F1 q2
    have er : (bnd2 mc2 fun k => if k = true then bnd2 me2 fun y => ret2 (some y) else ret2 none) e3 = .ok o e2' := er
    rw [er] at q
    obtain ⟨b, h2, S2, F2, r1, ⟨rfl, rfl⟩, r3, r4, r5, r6⟩ := q
    have hlen : env1.length = env.length := q5.trans (wipeE_len env own)
    refine ⟨env1, h2, F2, ?_, r3, (q3.trans (r6.mono (fun n u => u) fun n u => .inr u)).mono (fun n u => u.elim (by simp) id) fun n u => u, fun i hi => (q4 i fun z => hi (hT i z)).trans (wipeE_out env own hi), hlen⟩
    unfold turnM
    rw [bnd_of q1]
    exact r1
theorem com_rel (ht : TSim mt2 mt T) (hT : ∀ x ∈ T, x ∈ own) (hc : SimP mc2 mc) (he : SimP me2 me) {env : Env} : ∀ (its acc : List D) {h : LH} {e2 : VE} {envL : Env} {F : Nat → List Nat} {n : Nat} {l : List D} {e2' : VE}, EOwn h e2 envL F [] → (∀ i, i ∉ own → envL[i]? = env[i]?) → envL.length = env.length → h[n]? = some (some (.lst acc)) → (∀ i, n ∉ F i) → com2 (turn2 own mt2 mc2 me2) its acc e2 = .ok l e2' →
    ∃ env1 h' F', comL (turnM mt mc me (wipeE env own)) n its h = .ok () h' ∧ EOwn h' e2' env1 F' [] ∧ (∀ i, i ∉ own → env1[i]? = env[i]?) ∧ env1.length = env.length ∧ h'[n]? = some (some (.lst l)) ∧ (∀ i, n ∉ F' i) ∧ Step h (fun m => m = n ∨ UE F m) h' (UE F')
  | [], acc, h, e2, envL, F, n, l, e2', w, ag, hl, hn, hd, er => by
    cases er
    exact ⟨envL, h, F, rfl, w, ag, hl, hn, hd, Step.refl fun m u => .inr u⟩
  | d :: its, acc, h, e2, envL, F, n, l, e2', w, ag, hl, hn, hd, er => by
    have er : (turn2 own mt2 mc2 me2 d e2).bnd (fun o => match o with
      | some y => bnd2 (guard2 (decide (acc.length < 16777216))) fun _ => com2 (turn2 own mt2 mc2 me2) its (acc ++ [y])
      | none => com2 (turn2 own mt2 mc2 me2) its acc) = .ok l e2' := er
    cases e1 : turn2 own mt2 mc2 me2 d e2 with
    | stuck => rw [e1] at er; cases er
    | ex x e => rw [e1] at er; cases er
    | ok o e3 =>
      rw [e1] at er
      obtain ⟨env1, h1, F1, q1, q2, q3, q4, q5⟩ := turn_rel ht hT hc he w ag hl d e1
      have n1 : h1[n]? = some (some (.lst acc)) := (q3.fr n (lt_of_some hn) fun ⟨i, hi⟩ => hd i hi).trans hn
      have d1 : ∀ i, n ∉ F1 i := fun i hi => by
        rcases q3.sub n ⟨i, hi⟩ with ⟨j, hj⟩ | z
        · exact hd j hj
        · have := lt_of_some hn; omega
      cases o with
      | none =>
        have er : com2 (turn2 own mt2 mc2 me2) its acc e3 = .ok l e2' := er
        obtain ⟨env2, h2, F2, r1, r2, r3, r4, r5, r6, r7⟩ := com_rel ht hT hc he its acc q2 q4 q5 n1 d1 er
        refine ⟨env2, h2, F2, ?_, r2, r3, r4, r5, r6, (Step.trans (U1 := fun m => m = n ∨ UE F1 m) ⟨q3.len, fun m hm u => q3.fr m hm fun z => u (.inr z), fun m u => ?_⟩ r7)⟩
        · show bnd (turnM mt mc me (wipeE env own) d) _ h = _
          rw [bnd_of q1]
          exact r1
        · rcases u with u | u
          · exact .inl (.inl u)
          · exact (q3.sub m u).imp .inr id
      | some y =>
        have er : bnd2 (guard2 (decide (acc.length < 16777216))) (fun _ => com2 (turn2 own mt2 mc2 me2) its (acc ++ [y])) e3 = .ok l e2' := er
        by_cases g : decide (acc.length < 16777216) = true
        · unfold bnd2 guard2 at er
          rw [if_pos g] at er
          have er : com2 (turn2 own mt2 mc2 me2) its (acc ++ [y]) e3 = .ok l e2' := er
          have fr : ∀ m, m ≠ n → (h1.set n (some (Cell.lst (acc ++ [y]))))[m]? = h1[m]? := fun m hm => List.getElem?_set_ne fun z => hm z.symm
          have w3 : EOwn (h1.set n (some (Cell.lst (acc ++ [y])))) e3 env1 F1 [] := q2.fram (by simp) fun i m hm => fr m fun z => d1 i (z ▸ hm)
          have n3 : (h1.set n (some (Cell.lst (acc ++ [y]))))[n]? = some (some (.lst (acc ++ [y]))) := by
            rw [List.getElem?_set]
            simp only [ite_true]
            rw [if_pos (lt_of_some n1)]
          obtain ⟨env2, h2, F2, r1, r2, r3, r4, r5, r6, r7⟩ := com_rel ht hT hc he its (acc ++ [y]) w3 q4 q5 n3 d1 er
          refine ⟨env2, h2, F2, ?_, r2, r3, r4, r5, r6, (Step.trans (U1 := fun m => m = n ∨ UE F1 m) ⟨by simpa using q3.len, fun m hm u => ?_, fun m u => ?_⟩ r7)⟩
          · show bnd (turnM mt mc me (wipeE env own) d) _ h = _
            rw [bnd_of q1]
            show bnd (getC n) _ h1 = _
            rw [bnd_of (getC_of n1)]
            show bnd (guard' (decide (acc.length < 16777216))) _ h1 = _
            unfold guard'
            rw [if_pos g]
            show bnd (setC n _) _ h1 = _
            rw [bnd_of (setC_of n1)]
            exact r1
          · rw [fr m fun z => u (.inl z)]
            exact q3.fr m hm fun z => u (.inr z)
          · rcases u with u | u
            · exact .inl (.inl u)
            · exact (q3.sub m u).imp .inr id
        · unfold bnd2 guard2 at er
          rw [if_neg g] at er
          cases er
theorem com_sim (hi : SimP mi2 mi) (ht : TSim mt2 mt T) (hT : ∀ x ∈ T, x ∈ own) (hc : SimP mc2 mc) (he : SimP me2 me) : SimV (comM2 own mi2 mt2 mc2 me2) (comM own mi mt mc me) := fun h e2 env F w => by
  unfold comM2
  by_cases hk : keepFr e2 own = true
  · rw [if_pos hk]
    generalize er : noEx2 (bnd2 mi2 fun its => com2 (turn2 own mt2 mc2 me2) its []) e2 = r
    cases r with
    | stuck => trivial
    | ex x e => trivial
    | ok l e' =>
      have q := hi h e2 env F w
      have er : ((mi2 e2).bnd fun its => com2 (turn2 own mt2 mc2 me2) its []).noEx = .ok l e' := er
      cases e1 : mi2 e2 with
      | stuck => rw [e1] at er; cases er
      | ex x e => rw [e1] at er; cases er
      | ok its e3 =>
        rw [e1] at er q
        obtain ⟨b, h1, S1, F1, r1, ⟨rfl, rfl⟩, r3, r4, r5, r6⟩ := q
        have er : (com2 (turn2 own mt2 mc2 me2) its [] e3).noEx = .ok l e' := er
        cases e2' : com2 (turn2 own mt2 mc2 me2) its [] e3 with
        | stuck => rw [e2'] at er; cases er
        | ex x e => rw [e2'] at er; cases er
        | ok l2 e4 =>
          rw [e2'] at er
          cases er
          have fr0 : ∀ m, m < h1.length → (h1 ++ [some (Cell.lst [])])[m]? = h1[m]? := fun m hm => List.getElem?_append_left hm
          have w1 : EOwn (h1 ++ [some (Cell.lst [])]) e3 env F1 [] := r3.fram (by simp) fun i m hm => fr0 m (r3.lt i m hm)
          obtain ⟨env2, h2, F2, s1, s2, s3, s4, s5, s6, s7⟩ := com_rel ht hT hc he its [] (n := h1.length) w1 (fun _ _ => rfl) rfl (by simp) (fun i hi => by have := r3.lt i _ hi; omega) e2'
          obtain ⟨F3, w3, f3⟩ := w.rest s2 s3 s4 hk
          have st : Step h (UE F) (h2.set h1.length none) (fun n => n ∈ ([] : List Nat) ∨ UE F3 n) := by
            refine ⟨by have a1 := r6.len; have a2 := s7.len; simp at a2 ⊢; omega, fun m hm u => ?_, fun m u => ?_⟩
            · have m1 : m < h1.length := Nat.lt_of_lt_of_le hm r6.len
              rw [List.getElem?_set_ne (by omega), s7.fr m (by simp; omega) (fun z => ?_), fr0 m m1, r6.fr m hm u]
              rcases z with z | z
              · omega
              · rcases r6.sub m (.inr z) with y | y
                · exact u y
                · omega
            · obtain ⟨i, hi⟩ := u.resolve_left (by simp)
              rcases s7.sub m ⟨i, f3 i m hi⟩ with z | z
              · rcases z with z | z
                · subst z
                  exact .inr r6.len
                · exact r6.sub m (.inr z)
              · simp at z
                right
                have := r6.len
                omega
          refine ⟨.lst l, h2.set h1.length none, [], F3, ?_, .fr _, w3.fram (by simp) fun i m hm => List.getElem?_set_ne fun (z : h1.length = m) => s6 i (by rw [z]; exact f3 i m hm), by simp, by simp, st⟩
          unfold comM
          rw [bnd_of r1]
          have ea : newN (Cell.lst []) h1 = .ok h1.length (h1 ++ [some (Cell.lst [])]) := rfl
          rw [bnd_of ea]
          have eb : SX.noEx (comL (turnM mt mc me (wipeE env own)) h1.length its) (h1 ++ [some (Cell.lst [])]) = .ok () h2 := by
            unfold SX.noEx
            rw [s1]
          rw [bnd_of eb]
          unfold frzC
          dsimp only
          rw [s5]
          rfl
  · rw [if_neg hk]; trivial
end
end SX
end
section
set_option Elab.async false
set_option linter.all false
set_option maxRecDepth 100000
set_option maxHeartbeats 4000000
/-! VS7: expressions on both sides. -/
namespace SX
open PySem
def ArgSim (C2 : Cx2) (C : Ctx) (e : CE) : Prop := ∀ h e2 env F, EOwn h e2 env F [] → RelE h (UE F) env (fun h a d S => ArgR h env a d S) (argV (isVar e) (ev C2 e) e2) (evE C e env h)
structure LSim (C2 : Cx2) (C : Ctx) (es : CL) : Prop where
  d : SimP (evD C2 es) (evL C es)
  w : SimM (evW C2 es) (evL C es) OwnL
  a : ∀ h e2 env F, EOwn h e2 env F [] → RelE h (UE F) env (fun h as ds S => ArgL h env as ds S) (evA C2 es e2) (evL C es env h)
  hd : ∀ e r, es = .one e r → ArgSim C2 C e
section
variable {C2 : Cx2} {C : Ctx} (SC : SimC C2 C)
include SC
theorem arg_of {e : CE} (q : SimV (ev C2 e) (evE C e)) : ArgSim C2 C e := fun h e2 env F w => by
  have gen : isVar e = none → RelE h (UE F) env (fun h a d S => ArgR h env a d S) (argV (isVar e) (ev C2 e) e2) (evE C e env h) := fun hv => by
    rw [hv]
    have p := q h e2 env F w
    show RelE h (UE F) env _ ((ev C2 e e2).bnd fun v => ret2 (Arg.val v)) _
    generalize ev C2 e e2 = r2 at p
    cases r2 with
    | stuck => trivial
    | ex x e => exact p
    | ok v e =>
      obtain ⟨b, h', S, F', e1, q1, q2, q3, q4, q5⟩ := p
      exact ⟨b, h', S, F', e1, ArgR.val q1, q2, q3, q4, q5⟩
  cases e <;> first | exact gen rfl | skip
  rename_i i
  show RelE h (UE F) env _ ((match e2[i]? with
    | some (some _) => R2.ok (Arg.bor i) e2
    | _ => .stuck)) (getE env i h)
  cases e1 : e2[i]? with
  | none => trivial
  | some o =>
    cases o with
    | none => trivial
    | some v =>
      obtain ⟨d, e3, ov⟩ := w.own i v (by simp) e1
      rw [getE_of e3]
      exact RelE.ret (S := []) (ArgR.bor e3) w (by simp) (by simp) fun n u => u.elim (by simp) id
/-- an argument, then more -/
theorem arg_bind {γ δ : Type} {R' : LH → γ → δ → List Nat → Prop} {e : CE} (q : ArgSim C2 C e) {f : Arg → M2 γ} {g : D → Env → EM δ} (k : ∀ a d h S F e2 env, ArgR h env a d S → EOwn h e2 env F [] → (∀ n ∈ S, ∀ i, n ∉ F i) → RelE h (fun n => n ∈ S ∨ UE F n) env R' (f a e2) (g d env h)) :
    SimM (bnd2 (argV (isVar e) (ev C2 e)) f) (fun env => bnd (evE C e env) fun d => g d env) R' := fun h e2 env F w =>
  (q h e2 env F w).bind fun a d h' S F' e2' r w' dj l => k a d h' S F' e2' env r w' dj
/-- something pure, an argument waiting -/
theorem wait_bind {α γ δ : Type} {R' : LH → γ → δ → List Nat → Prop} {m2 : M2 α} {m : Env → EM α} (q : SimP m2 m) {f : α → M2 γ} {g : α → Env → EM δ} {h : LH} {e2 : VE} {env : Env} {F : Nat → List Nat} (w : EOwn h e2 env F []) {a : Arg} {d : D} {S : List Nat} (r : ArgR h env a d S) (hS : ∀ n ∈ S, ∀ i, n ∉ F i)
    (k : ∀ x h e2 F, ArgR h env a d S → EOwn h e2 env F [] → (∀ n ∈ S, ∀ i, n ∉ F i) → RelE h (fun n => n ∈ S ∨ UE F n) env R' (f x e2) (g x env h)) : RelE h (fun n => n ∈ S ∨ UE F n) env R' (bnd2 m2 f e2) (bnd (m env) (fun x => g x env) h) :=
  (q.pend w hS r.lt).bind fun x y h' S' F' e2' rr w' dj l => by
    obtain ⟨T, rfl, ⟨rfl, rfl⟩, q1, q2, q3⟩ := rr
    rw [List.append_nil] at dj ⊢
    exact k x h' e2' F' (r.fram q3) w' dj
theorem neg_sim {m2 : M2 D} {m : Env → EM D} (q : SimP m2 m) : SimV (bnd2 m2 fun x => match x with
    | .int i => ret2 (.fr (.int (-i)))
    | _ => stk2) (fun env => bnd (m env) fun x => match x with
    | .int i => ret (.int (-i))
    | _ => stk) := SimP.bind q fun x => by
  cases x <;> first | exact SimM.stk | exact SimV.fr _
theorem rev_sim {m2 : M2 D} {m : Env → EM D} (q : SimP m2 m) : SimV (bnd2 m2 fun x => match x with
    | .lst l => ret2 (.fr (.lst l.reverse))
    | _ => stk2) (fun env => bnd (m env) fun x => match x with
    | .lst l => ret (.lst l.reverse)
    | _ => stk) := SimP.bind q fun x => by
  cases x <;> first | exact SimM.stk | exact SimV.fr _
theorem bl_sim {m2 : M2 Bool} {m : Env → EM Bool} (q : SimP m2 m) (f : Bool → Bool) : SimV (bnd2 m2 fun k => ret2 (.fr (.bl (f k)))) (fun env => bnd (m env) fun k => ret (.bl (f k))) := SimP.bind q fun _ => SimV.fr _
theorem ite_sim {α β : Type} {R : LH → α → β → List Nat → Prop} {a2 b2 : M2 α} {a b : Env → EM β} (k : Bool) (ha : SimM a2 a R) (hb : SimM b2 b R) : SimM (if k = true then a2 else b2) (fun env => if k = true then a env else b env) R := by
  cases k
  · exact hb
  · exact ha
theorem chn_sim {a2 b2 c2 : M2 D} {a b c : Env → EM D} (o p : COp) (ha : SimP a2 a) (hb : SimP b2 b) (hc : SimP c2 c) : SimV (bnd2 a2 fun x => bnd2 b2 fun y => bnd2 (lift2 (cmpD o x y)) fun k => if k = true then bnd2 c2 fun z => bnd2 (lift2 (cmpD p y z)) fun k2 => ret2 (.fr (.bl k2)) else ret2 (.fr (.bl false)))
    (fun env => bnd (a env) fun x => bnd (b env) fun y => bnd (ofO (cmpD o x y)) fun k => if k = true then bnd (c env) fun z => bnd (ofO (cmpD p y z)) fun k2 => ret (.bl k2) else ret (.bl false)) :=
  SimP.bind ha fun x => SimP.bind hb fun y => SimP.bind (SimP.lift _) fun k => ite_sim SC (a := fun env => bnd (c env) fun z => bnd (ofO (cmpD p y z)) fun k2 => ret (D.bl k2)) (b := fun _ => ret (D.bl false)) k (SimP.bind hc fun z => SimP.bind (SimP.lift _) fun _ => SimV.fr _) (SimV.fr _)
theorem and_sim {a2 : M2 D} {a : Env → EM D} {b2 : M2 Vl} {b : Env → EM D} (ha : SimP a2 a) (hb : SimV b2 b) : SimV (bnd2 a2 fun x => bnd2 (lift2 (pureO (truD x))) fun k => if k = true then b2 else ret2 (.fr x)) (fun env => bnd (a env) fun x => bnd (truD x) fun k => if k = true then b env else ret x) :=
  SimP.bind ha fun x => SimP.bind (po_tru x).sim fun k => ite_sim SC (b := fun _ => ret x) k hb (SimV.fr _)
theorem or_sim {a2 : M2 D} {a : Env → EM D} {b2 : M2 Vl} {b : Env → EM D} (ha : SimP a2 a) (hb : SimV b2 b) : SimV (bnd2 a2 fun x => bnd2 (lift2 (pureO (truD x))) fun k => if k = true then ret2 (.fr x) else b2) (fun env => bnd (a env) fun x => bnd (truD x) fun k => if k = true then ret x else b env) :=
  SimP.bind ha fun x => SimP.bind (po_tru x).sim fun k => ite_sim SC (a := fun _ => ret x) k (SimV.fr _) hb
theorem cond_sim {c2 : M2 D} {c : Env → EM D} {a2 b2 : M2 Vl} {a b : Env → EM D} (hc : SimP c2 c) (ha : SimV a2 a) (hb : SimV b2 b) : SimV (bnd2 c2 fun x => bnd2 (lift2 (pureO (truD x))) fun k => if k = true then a2 else b2) (fun env => bnd (c env) fun x => bnd (truD x) fun k => if k = true then a env else b env) :=
  SimP.bind hc fun x => SimP.bind (po_tru x).sim fun k => ite_sim SC k ha hb
theorem lsc_sim {m2 : M2 (List D)} {m : Env → EM (List D)} (q : SimP m2 m) : SimV (bnd2 m2 fun vs => bnd2 (guard2 (fitB vs.length)) fun _ => ret2 (.ls vs)) (fun env => bnd (m env) fun vs => bnd (guard' (fitB vs.length)) fun _ => newC (.lst vs)) :=
  SimP.bind q fun vs => SimP.bind (SimP.guard _) fun _ => fun h e2 env F w => by
    refine ⟨.ref h.length, h ++ [some (.lst vs)], [h.length], F, rfl, .ls _ _ (by simp), w.fram (by simp) fun i n hn => List.getElem?_append_left (w.lt i n hn), fun n hn i hi => ?_, fun n hn => ?_, ⟨by simp, fun n hn _ => List.getElem?_append_left hn, fun n u => ?_⟩⟩
    · rw [List.mem_singleton.mp hn] at hi; have := w.lt i _ hi; omega
    · rw [List.mem_singleton.mp hn]; simp
    · rcases u with u | u
      · rw [List.mem_singleton.mp u]; exact .inr (Nat.le_refl _)
      · exact .inl u
theorem dnw_sim : SimV (ret2 (.di [])) (fun _ => newC (.dic [])) := fun h e2 env F w => by
  refine ⟨.ref h.length, h ++ [some (.dic [])], [h.length], F, rfl, .di _ _ _ _ (by simp) .nil (by simp), w.fram (by simp) fun i n hn => List.getElem?_append_left (w.lt i n hn), fun n hn i hi => ?_, fun n hn => ?_, ⟨by simp, fun n hn _ => List.getElem?_append_left hn, fun n u => ?_⟩⟩
  · rw [List.mem_singleton.mp hn] at hi; have := w.lt i _ hi; omega
  · rw [List.mem_singleton.mp hn]; simp
  · rcases u with u | u
    · rw [List.mem_singleton.mp u]; exact .inr (Nat.le_refl _)
    · exact .inl u
omit SC in
theorem evL_len (C : Ctx) : ∀ (es : CL) (env : Env) (h h' : LH) (ds : List D), noOne es = true → evL C es env h = .ok ds h' → ds.length = es.len
  | .nil, env, h, h', ds, _, e => by cases e; rfl
  | .one a r, env, h, h', ds, ho, e => by
    have e : bnd (evE C a env) (fun x => bnd (evL C r env) fun xs => ret (x :: xs)) h = .ok ds h' := e
    unfold SX.bnd at e
    cases e1 : evE C a env h with
    | stuck => rw [e1] at e; cases e
    | ex x h1 => rw [e1] at e; cases e
    | ok x h1 =>
      rw [e1] at e
      dsimp only at e
      cases e2 : evL C r env h1 with
      | stuck => rw [e2] at e; cases e
      | ex x h1 => rw [e2] at e; cases e
      | ok xs h2 =>
        rw [e2] at e
        cases e
        exact congrArg (· + 1) (evL_len C r env h1 _ xs ho e2)
  | .sta _ _, _, _, _, _, ho, _ => by cases ho
theorem dcc_sim {ks : List L2.Key} {es : CL} (q : SimM (evW C2 es) (evL C es) OwnL) : SimV (bnd2 (guard2 (ks.length == es.len && decide (ks.length ≤ 15) && !ks.isEmpty && decide ks.Nodup && noOne es)) fun _ => bnd2 (evW C2 es) fun vs => ret2 (.di (ks.zip vs)))
    (fun env => bnd (guard' (ks.length == es.len && decide (ks.length ≤ 15) && !ks.isEmpty)) fun _ => bnd (newN (.dic [])) fun n => bnd (evL C es env) fun vs => fillD n (ks.zip vs)) := fun h e2 env F w => by
  by_cases g : (ks.length == es.len && decide (ks.length ≤ 15) && !ks.isEmpty && decide ks.Nodup && noOne es) = true
  · have g' := g
    rw [Bool.and_eq_true, Bool.and_eq_true] at g
    obtain ⟨⟨g1, g2⟩, g3⟩ := g
    unfold bnd2 guard2 guard'
    rw [if_pos g', if_pos g1]
    show RelE h (UE F) env Own ((evW C2 es e2).bnd fun vs => ret2 (.di (ks.zip vs))) (bnd (newN (.dic [])) (fun n => bnd (evL C es env) fun vs => fillD n (ks.zip vs)) h)
    have ea : newN (Cell.dic []) h = .ok h.length (h ++ [some (Cell.dic [])]) := rfl
    rw [bnd_of ea]
    have w1 : EOwn (h ++ [some (Cell.dic [])]) e2 env F [] := w.fram (by simp) fun i n hn => List.getElem?_append_left (w.lt i n hn)
    have hd : ∀ n ∈ [h.length], ∀ i, n ∉ F i := fun n hn i hi => by
      rw [List.mem_singleton.mp hn] at hi; have := w.lt i _ hi; omega
    have p := q.pend w1 hd (by simp)
    generalize e1 : evW C2 es e2 = r2 at p
    have st : Step h (UE F) (h ++ [some (Cell.dic [])]) (fun n => n ∈ [h.length] ∨ UE F n) := ⟨by simp, fun n hn _ => List.getElem?_append_left hn, fun n u => by
      rcases u with u | u
      · rw [List.mem_singleton.mp u]; exact .inr (Nat.le_refl _)
      · exact .inl u⟩
    cases r2 with
    | stuck => trivial
    | ex x e3 =>
      obtain ⟨h2, F2, p1, p2, p3⟩ := p
      show RelE h _ env Own (.ex x e3) _
      unfold SX.bnd
      rw [p1]
      exact ⟨h2, F2, rfl, p2, st.trans p3⟩
    | ok vs e3 =>
      obtain ⟨ds, h2, S, F2, p1, ⟨T, rfl, p2, p3, p4, p5⟩, p6, p7, p8, p9⟩ := p
      rw [bnd_of p1]
      have n2 : h2[h.length]? = some (some (.dic [])) := by
        rw [p5 h.length (by simp)]; simp
      have hl : ds.length = es.len := evL_len C es env _ _ _ g3 p1
      have hk : ks.length = ds.length := by
        rw [hl]
        rw [Bool.and_eq_true, Bool.and_eq_true] at g1
        exact eq_of_beq g1.1.1
      have hz : (ks.zip ds).map (·.1) = ks := by
        rw [List.map_fst_zip (by omega)]
      have em : mergeD [] (ks.zip ds) = ks.zip ds := by
        rw [merge_new _ [] (by rw [List.nil_append, hz]; exact of_decide_eq_true g2), List.nil_append]
      have ef : fillD h.length (ks.zip ds) h2 = .ok (.ref h.length) (h2.set h.length (some (.dic (ks.zip ds)))) := by
        unfold fillD
        rw [bnd_of (getC_of n2)]
        show bnd (setC h.length (.dic (mergeD [] (ks.zip ds)))) _ h2 = _
        rw [em, bnd_of (setC_of n2)]
        rfl
      have fr : ∀ m, m ≠ h.length → (h2.set h.length (some (Cell.dic (ks.zip ds))))[m]? = h2[m]? := fun m hm => List.getElem?_set_ne fun z => hm z.symm
      refine ⟨.ref h.length, _, h.length :: T, F2, ef, .di _ _ _ _ (by rw [List.getElem?_set]; simp only [ite_true]; rw [if_pos (lt_of_some n2)]) ((OwnL.zipK ks p2 (by rw [hk, p2.length])).fram ?_) (p3 _ (by simp)), p6.fram (by simp) fun i m hm => fr m fun z => p7 m (by rw [z]; simp) i hm, p7, fun n hn => by simpa using p8 n hn, ?_⟩
      · exact fun m hm => fr m fun z => p3 h.length (by simp) (z ▸ hm)
      · refine (st.trans p9).trans ⟨by simp, fun m hm u => fr m fun z => u (.inl (by rw [z]; simp)), fun m u => .inl u⟩
  · unfold bnd2 guard2
    rw [if_neg g]
    trivial
theorem fst_sim {m2 : M2 Str} {m : Env → EM Str} (q : SimP m2 m) : SimV (bnd2 m2 fun s => ret2 (.fr (.str s))) (fun env => bnd (m env) fun s => ret (.str s)) := SimP.bind q fun _ => SimV.fr _
theorem mut_sim (m : BMt) (hm : mutM m = true) (i : Nat) {es : CL} (q : SimM (evW C2 es) (evL C es) OwnL) : SimV (bnd2 (peek (.bor i)) fun v => bnd2 (guard2 (mutK m v)) fun _ => bnd2 (evW C2 es) fun ws => bnd2 (updV i fun v => mutV m v ws) fun _ => ret2 (.fr .non))
    (fun env => bnd (getE env i) fun x => bnd (kindD m x) fun _ => bnd (evL C es env) fun vs => bmtD m x vs) := fun h e2 env F w => by
  unfold bnd2 peek getA1
  dsimp only
  cases e : e2[i]? with
  | none => trivial
  | some o =>
    cases o with
    | none => trivial
    | some v =>
      dsimp only
      obtain ⟨d, ed, ov⟩ := w.own i v (by simp) e
      rw [getE_of ed]
      show RelE h (UE F) env Own ((guard2 (mutK m v) e2).bnd _) (bnd (kindD m d) _ h)
      by_cases g : mutK m v = true
      · unfold guard2
        rw [if_pos g]
        have hk : ∀ S, Own h v d S → kindD m d h = .ok () h := fun S ov => by
          cases m <;> first | (cases hm; done) | skip
          · cases ov with
            | ls n l e1 =>
              show bnd (getC _) _ h = _
              rw [bnd_of (getC_of e1)]
              rfl
            | fr _ => cases g
            | di _ _ _ _ _ _ _ => cases g
            | ob _ _ _ _ _ _ _ _ => cases g
          · cases ov with
            | ls n l e1 =>
              show bnd (getC _) _ h = _
              rw [bnd_of (getC_of e1)]
              rfl
            | fr _ => cases g
            | di _ _ _ _ _ _ _ => cases g
            | ob _ _ _ _ _ _ _ _ => cases g
          · cases ov with
            | di n _ _ _ e1 _ _ =>
              show bnd (getC _) _ h = _
              rw [bnd_of (getC_of e1)]
              rfl
            | fr _ => cases g
            | ls _ _ _ => cases g
            | ob _ _ _ _ _ _ _ _ => cases g
        have hk := hk _ ov
        rw [bnd_of hk]
        show RelE h (UE F) env Own (bnd2 (evW C2 es) _ e2) (bnd (evL C es env) _ h)
        refine RelE.bind (q h e2 env F w) fun ws ds h' S F' e2' r w' dj lS => ?_
        have main := upd_rel (g := fun v => mutV m v ws) w' dj ed (op := fun g => match bmtD m d ds g with
          | .ok .non g' => .ok () g'
          | _ => .stuck) fun v u T o djT eg => by
          have fin : ∀ {n : Nat} {c0 c : Cell} {T' : List Nat}, n ∈ T → h'[n]? = some (some c0) → bmtD m d ds h' = .ok .non (h'.set n (some c)) → Own (h'.set n (some c)) u d T' → (∀ k ∈ T', k ∈ T ∨ k ∈ S) → ∃ n c0 c T', n ∈ T ∧ h'[n]? = some (some c0) ∧ (fun g => match bmtD m d ds g with
              | .ok .non g' => (.ok () g' : Res Unit)
              | _ => .stuck) h' = .ok () (h'.set n (some c)) ∧ Own (h'.set n (some c)) u d T' ∧ ∀ m ∈ T', m ∈ T ∨ m ∈ S := fun {n c0 c T'} a1 a2 a3 a4 a5 => ⟨n, c0, c, T', a1, a2, by dsimp only; rw [a3], a4, a5⟩
          have self : ∀ {n : Nat} {c0 c : Cell}, h'[n]? = some (some c0) → (h'.set n (some c))[n]? = some (some c) := fun {n c0 c} e => by
            rw [List.getElem?_set]; simp only [ite_true]; rw [if_pos (lt_of_some e)]
          cases m <;> first | (cases hm; done) | skip
          · cases o with
            | ls n l e1 =>
              rcases ws with _ | ⟨x, _ | ⟨y, z⟩⟩ <;> try (cases eg; done)
              · cases x <;> try (cases eg; done)
                rename_i x
                cases r with
                | @cons _ x' _ _ _ _ o1 r1 _ =>
                  obtain ⟨rfl, rfl⟩ := o1.frz
                  cases r1
                  have eg : (if decide (l.length < 16777216) then some (Vl.ls (l ++ [x'])) else none) = some u := eg
                  by_cases gl : decide (l.length < 16777216) = true
                  · rw [if_pos gl] at eg
                    cases eg
                    refine fin (List.mem_singleton.mpr rfl) e1 ?_ (.ls _ _ (self e1)) fun k hk => .inl hk
                    show bnd (getC n) _ h' = _
                    rw [bnd_of (getC_of e1)]
                    show bnd (guard' _) _ h' = _
                    unfold guard'
                    rw [if_pos gl]
                    show bnd (setC n _) _ h' = _
                    rw [bnd_of (setC_of e1)]
                    rfl
                  · rw [if_neg gl] at eg; cases eg
              · cases x <;> (cases eg; done)
            | fr _ => cases eg
            | di _ _ _ _ _ _ _ => cases eg
            | ob _ _ _ _ _ _ _ _ => cases eg
          · cases o with
            | ls n l e1 =>
              rcases ws with _ | ⟨x, _ | ⟨y, z⟩⟩ <;> try (cases eg; done)
              · cases x <;> try (cases eg; done)
                rename_i x
                cases x <;> try (cases eg; done)
                rename_i l2
                cases r with
                | cons o1 r1 _ =>
                  obtain ⟨e7, rfl⟩ := o1.frz
                  subst e7
                  cases r1
                  have eg : (if fitB (l.length + l2.length) then some (Vl.ls (l ++ l2)) else none) = some u := eg
                  by_cases gl : fitB (l.length + l2.length) = true
                  · rw [if_pos gl] at eg
                    cases eg
                    refine fin (List.mem_singleton.mpr rfl) e1 ?_ (.ls _ _ (self e1)) fun k hk => .inl hk
                    show bnd (getC n) _ h' = _
                    rw [bnd_of (getC_of e1)]
                    show bnd (guard' _) _ h' = _
                    unfold guard'
                    rw [if_pos gl]
                    show bnd (setC n _) _ h' = _
                    rw [bnd_of (setC_of e1)]
                    rfl
                  · rw [if_neg gl] at eg; cases eg
              · cases x <;> try (cases eg; done)
                rename_i x
                cases x <;> (cases eg; done)
            | fr _ => cases eg
            | di _ _ _ _ _ _ _ => cases eg
            | ob _ _ _ _ _ _ _ _ => cases eg
          · cases o with
            | di n kvs kds S1 e1 ok q1 =>
              rcases ws with _ | ⟨x, _ | ⟨y, z⟩⟩ <;> try (cases eg; done)
              · cases x <;> try (cases eg; done)
                rename_i more
                cases r with
                | cons o1 r1 _ =>
                  cases r1
                  cases o1 with
                  | di n2 _ mds S2 e2 ok2 q2 =>
                    have eg : (if fitB (kvs.length + more.length) && (frsD (more.map (·.2))).isSome then some (Vl.di (mergeV kvs more)) else none) = some u := eg
                    by_cases gl : (fitB (kvs.length + more.length) && (frsD (more.map (·.2))).isSome) = true
                    · rw [if_pos gl] at eg
                      cases eg
                      rw [Bool.and_eq_true] at gl
                      obtain ⟨l, el⟩ := Option.isSome_iff_exists.mp gl.2
                      have hn : n ≠ n2 := fun z => djT n2 (by simp) (by rw [z]; simp)
                      obtain ⟨S3, o3, s3⟩ := OwnK.merge ok2 el ok
                      refine fin (T' := n :: S3) List.mem_cons_self e1 ?_ (.di _ _ _ _ (self e1) (o3.fram fun k hk => List.getElem?_set_ne fun z => q1 (by rw [z]; exact s3 k hk)) fun z => q1 (s3 n z)) fun k hk => .inl ?_
                      · show bnd (getC n) _ h' = _
                        rw [bnd_of (getC_of e1)]
                        show bnd (getC n2) _ h' = _
                        rw [bnd_of (getC_of e2)]
                        show bnd (guard' (n != n2 && fitB (kds.length + mds.length))) _ h' = _
                        unfold guard'
                        rw [if_pos (by rw [Bool.and_eq_true, ok.length, ok2.length]; exact ⟨bne_iff_ne.mpr hn, gl.1⟩)]
                        show bnd (setC n _) _ h' = _
                        rw [bnd_of (setC_of e1)]
                        rfl
                      · rcases List.mem_cons.mp hk with z | z
                        · rw [z]; exact List.mem_cons_self
                        · exact List.mem_cons_of_mem _ (s3 k z)
                    · rw [if_neg gl] at eg; cases eg
              · cases x <;> (cases eg; done)
            | fr _ => cases eg
            | ls _ _ _ => cases eg
            | ob _ _ _ _ _ _ _ _ => cases eg
        show RelE h' _ env Own ((updV i (fun v => mutV m v ws) e2').bnd fun _ => ret2 (.fr .non)) (bmtD m d ds h')
        rcases main with z | ⟨e3, h2, F2, z1, z2, z3, z4⟩
        · rw [z]; trivial
        · rw [z1]
          refine ⟨.non, h2, [], F2, ?_, .fr _, z3, by simp, by simp, z4.mono (fun n u => u) fun n u => u.elim (by simp) id⟩
          have z2 : (match bmtD m d ds h' with
            | .ok .non g' => (.ok () g' : Res Unit)
            | _ => .stuck) = .ok () h2 := z2
          split at z2
          · rename_i e5; rw [e5]; cases z2; rfl
          · cases z2
      · unfold guard2
        rw [if_neg g]
        trivial
end
end SX
end
section
set_option Elab.async false
set_option linter.all false
set_option maxRecDepth 100000
set_option maxHeartbeats 4000000
/-! VS8: stores, and all expressions. -/
namespace SX
open PySem
theorem nam_sim (i : Nat) : TSim (fun v => setV i v) (fun d env => ret (env.set i (some d))) [i] := fun h e2 env F v d S w o hS => by
  refine ⟨_, h, _, rfl, w.bind o hS, Step.refl fun n u => UE_up u, fun j hj => List.getElem?_set_ne fun z => hj (by rw [z]; exact List.mem_singleton.mpr rfl), by simp⟩
theorem hdt_sim (i j : Nat) : TSim (hdt2 i j) (fun d env => hdtD i j env d) [i, j] := fun h e2 env F v d S w o hS => by
  cases v with
  | ls _ => trivial
  | di _ => trivial
  | ob _ _ => trivial
  | fr x =>
    obtain ⟨rfl, rfl⟩ := o.frz
    cases d <;> first | trivial | skip
    rename_i l
    cases l with
    | nil => trivial
    | cons x l =>
      by_cases g : decide (l.length < 16384) = true
      · show RelT h _ env [i, j] (bnd2 (guard2 (decide (l.length < 16384))) _ e2) (bnd (guard' (decide (l.length < 16384))) _ h)
        unfold bnd2 guard2 guard'
        rw [if_pos g, if_pos g]
        have w1 := w.bind (i := i) (S := []) (Own.fr x) (by simp)
        have w2 := w1.bind (i := j) (S := []) (Own.fr (.lst l)) (by simp)
        refine ⟨_, h, _, rfl, w2, Step.refl fun n u => .inr ?_, fun k hk => ?_, by simp⟩
        · have := (UE_up u).resolve_left (by simp)
          exact (UE_up this).resolve_left (by simp)
        · have h1 : k ≠ i := fun z => hk (by rw [z]; simp)
          have h2 : k ≠ j := fun z => hk (by rw [z]; simp)
          rw [List.getElem?_set_ne (fun z => h2 z.symm), List.getElem?_set_ne (fun z => h1 z.symm)]
      · show RelT h _ env [i, j] (bnd2 (guard2 (decide (l.length < 16384))) _ e2) _
        unfold bnd2 guard2
        rw [if_neg g]
        trivial
theorem tup_sim (n : Nat) {m2 : List D → M2 Unit} {m : List D → Env → EM Env} {T : List Nat} (q : ∀ h e2 env F ds, EOwn h e2 env F [] → RelT h (UE F) env T (m2 ds e2) (m ds env h)) : TSim (tupT2 n m2) (tupT n m) T := fun h e2 env F v d S w o hS => by
  cases v with
  | ls _ => trivial
  | di _ => trivial
  | ob _ _ => trivial
  | fr x =>
    obtain ⟨rfl, rfl⟩ := o.frz
    cases d <;> first | trivial | skip
    rename_i l
    show RelT h _ env T ((if l.length = n then m2 l else stk2) e2) ((if l.length = n then m l env else stk) h)
    by_cases g : l.length = n
    · rw [if_pos g, if_pos g]
      have p := q h e2 env F l w
      generalize m2 l e2 = r2 at p
      cases r2 with
      | stuck => trivial
      | ex _ _ => trivial
      | ok a e3 =>
        obtain ⟨env1, h', F', p1, p2, p3, p4, p5⟩ := p
        exact ⟨env1, h', F', p1, p2, p3.mono (fun n u => .inr u) fun n u => u, p4, p5⟩
    · rw [if_neg g]; trivial
theorem cons_sim {m2 : Vl → M2 Unit} {m : D → Env → EM Env} {T T' : List Nat} (q : TSim m2 m T) {r2 : List D → M2 Unit} {r : List D → Env → EM Env} (p : ∀ h e2 env F ds, EOwn h e2 env F [] → RelT h (UE F) env T' (r2 ds e2) (r ds env h)) (d : D) (l : List D) {h : LH} {e2 : VE} {env : Env} {F : Nat → List Nat} (w : EOwn h e2 env F []) :
    RelT h (UE F) env (T ++ T') (bnd2 (m2 (.fr d)) (fun _ => r2 l) e2) (bnd (m d env) (fun env1 => r l env1) h) := by
  have a := q h e2 env F (.fr d) d [] w (.fr d) (by simp)
  unfold bnd2
  generalize m2 (.fr d) e2 = x2 at a
  cases x2 with
  | stuck => trivial
  | ex _ _ => trivial
  | ok u e3 =>
    obtain ⟨env1, h1, F1, a1, a2, a3, a4, a5⟩ := a
    rw [bnd_of a1]
    have b := p h1 e3 env1 F1 l a2
    show RelT h _ env _ (r2 l e3) _
    generalize r2 l e3 = y2 at b
    cases y2 with
    | stuck => trivial
    | ex _ _ => trivial
    | ok u e4 =>
      obtain ⟨env2, h2, F2, b1, b2, b3, b4, b5⟩ := b
      exact ⟨env2, h2, F2, b1, b2, (a3.mono (fun n u => u.resolve_left (by simp)) fun n u => u).trans b3, fun i hi => by
        rw [List.mem_append, not_or] at hi
        rw [b4 i hi.2, a4 i hi.1], b5.trans a5⟩
theorem self_get {h : LH} {n : Nat} {c0 c : Cell} (e : h[n]? = some (some c0)) : (h.set n (some c))[n]? = some (some c) := by
  rw [List.getElem?_set]; simp only [ite_true]; rw [if_pos (lt_of_some e)]
theorem sub_sim (j : Nat) {mi2 : M2 D} {mi : Env → EM D} (q : SimP mi2 mi) : TSim (fun v => bnd2 (peek (.bor j)) fun _ => bnd2 mi2 fun y => updV j (subV y v)) (fun d env => bnd (getE env j) fun x => bnd (mi env) fun y => bnd (setD x y d) fun _ => ret env) [] := fun h e2 env F v d S w o hS => by
  show RelT h _ env [] (bnd2 (peek (.bor j)) _ e2) _
  unfold bnd2 peek getA1
  dsimp only
  cases e : e2[j]? with
  | none => trivial
  | some ov =>
    cases ov with
    | none => trivial
    | some v0 =>
      obtain ⟨dx, ed, o0⟩ := w.own j v0 (by simp) e
      rw [getE_of ed]
      dsimp only
      show RelT h _ env [] ((mi2 e2).bnd fun y => updV j (subV y v)) (bnd (mi env) _ h)
      have p := q.pend w hS o.lt
      generalize mi2 e2 = r2 at p
      cases r2 with
      | stuck => trivial
      | ex _ _ => trivial
      | ok y e3 =>
        obtain ⟨y', h1, S1, F1, p1, ⟨T1, rfl, ⟨rfl, rfl⟩, p2, p3, p4⟩, p5, p6, p7, p8⟩ := p
        rw [bnd_of p1]
        rw [List.append_nil] at p6 p7 p8
        have o1 : Own h1 v d S := o.fram p4
        have main := upd_rel (g := subV y v) (op := setD dx y d) p5 p6 ed fun v1 u T ot djT eg => by
          cases ot with
          | fr _ => cases eg
          | ob _ _ _ _ _ _ _ _ => cases eg
          | ls n l e1 =>
            cases y <;> try (cases eg; done)
            rename_i i
            cases v <;> try (cases eg; done)
            rename_i x
            obtain ⟨rfl, rfl⟩ := o1.frz
            have eg : (ixN l.length i).map (fun j => Vl.ls (l.set j d)) = some u := eg
            cases ei : ixN l.length i with
            | none => rw [ei] at eg; cases eg
            | some k =>
              rw [ei] at eg
              cases eg
              refine ⟨n, _, .lst (l.set k d), [n], List.mem_singleton.mpr rfl, e1, ?_, .ls _ _ (self_get e1), fun m hm => .inl hm⟩
              show bnd (getC n) _ h1 = _
              rw [bnd_of (getC_of e1)]
              show setIx n l d (ixN l.length i) h1 = _
              rw [ei]
              exact setC_of e1
          | di n kvs kds S2 e1 ok q1 =>
            have eg : (match keyD y with
              | some k => if decide (kvs.length < 16777216) && v.isFr then some (Vl.di (putV kvs k v)) else none
              | none => none) = some u := eg
            cases ek : keyD y with
            | none => rw [ek] at eg; cases eg
            | some k =>
              rw [ek] at eg
              dsimp only at eg
              by_cases g : (decide (kvs.length < 16777216) && v.isFr) = true
              · rw [if_pos g] at eg
                cases eg
                rw [Bool.and_eq_true] at g
                cases v <;> try (cases g.2; done)
                rename_i x
                obtain ⟨rfl, rfl⟩ := o1.frz
                obtain ⟨S3, o3, s3⟩ := ok.put (k := k) (x := d)
                refine ⟨n, _, .dic (putD kds k d), n :: S3, List.mem_cons_self, e1, ?_, .di _ _ _ _ (self_get e1) (o3.fram fun m hm => List.getElem?_set_ne fun z => q1 (by rw [z]; exact s3 m hm)) fun z => q1 (s3 n z), fun m hm => .inl ?_⟩
                · show bnd (getC n) _ h1 = _
                  rw [bnd_of (getC_of e1)]
                  show setKy n kds d (keyD y) h1 = _
                  rw [ek]
                  show bnd (guard' (decide (kds.length < 16777216))) _ h1 = _
                  unfold guard'
                  rw [if_pos (by rw [ok.length]; exact g.1)]
                  exact setC_of e1
                · rcases List.mem_cons.mp hm with z | z
                  · rw [z]; exact List.mem_cons_self
                  · exact List.mem_cons_of_mem _ (s3 m z)
              · rw [if_neg g] at eg; cases eg
        rcases main with z | ⟨e4, h2, F2, z1, z2, z3, z4⟩
        · show RelT h _ env [] (updV j (subV y v) e3) _
          rw [z]; trivial
        · show RelT h _ env [] (updV j (subV y v) e3) _
          rw [z1, bnd_of z2]
          exact ⟨env, h2, F2, rfl, z3, p8.trans z4, fun _ _ => rfl, rfl⟩
theorem att_sim {C2 : Cx2} {C : Ctx} (SC : SimC C2 C) (j f : Nat) : TSim (fun v => updV j (fldV C2 f v)) (fun d env => bnd (getE env j) fun x => bnd (setA C x f d) fun _ => ret env) [] := fun h e2 env F v d S w o hS => by
  show RelT h _ env [] (updV j (fldV C2 f v) e2) _
  cases e : e2[j]? with
  | none => unfold updV; rw [e]; trivial
  | some ov =>
    cases ov with
    | none => unfold updV; rw [e]; trivial
    | some v0 =>
      obtain ⟨dx, ed, o0⟩ := w.own j v0 (by simp) e
      show RelT h _ env [] (updV j (fldV C2 f v) e2) (bnd (getE env j) (fun x => bnd (setA C x f d) fun _ => ret env) h)
      rw [getE_of ed]
      have main := upd_rel (g := fldV C2 f v) (op := setA C dx f d) w hS ed fun v1 u T ot djT eg => by
        cases ot with
        | fr _ => cases eg
        | ls _ _ _ => cases eg
        | di _ _ _ _ _ _ _ => cases eg
        | ob n c vs ds S1 e1 ok q1 =>
          have eg : (match (C2.flds c).idxOf? f with
            | some k => if decide (k ≤ vs.length) then some (Vl.ob c (vs.take k ++ v :: vs.drop (k + 1))) else none
            | none => none) = some u := eg
          rw [SC.flds] at eg
          cases ek : (C.flds c).idxOf? f with
          | none => rw [ek] at eg; cases eg
          | some k =>
            rw [ek] at eg
            dsimp only at eg
            by_cases g : decide (k ≤ vs.length) = true
            · rw [if_pos g] at eg
              cases eg
              have nS : n ∉ S := fun z => djT n z List.mem_cons_self
              obtain ⟨T', o3, s3⟩ := OwnL.putAt o k ok fun m hm z => djT m hm (List.mem_cons_of_mem _ z)
              have nT : n ∉ T' := fun z => (s3 n z).elim nS q1
              refine ⟨n, _, .obj c (ds.take k ++ d :: ds.drop (k + 1)), n :: T', List.mem_cons_self, e1, ?_, .ob _ _ _ _ _ (self_get e1) (o3.fram fun m hm => List.getElem?_set_ne fun z => nT (by rw [z]; exact hm)) nT, fun m hm => ?_⟩
              · show bnd (getC n) _ h = _
                rw [bnd_of (getC_of e1)]
                show (match (C.flds c).idxOf? f with
                  | some j => bnd (guard' (decide (j ≤ ds.length))) fun _ => setC n (.obj c (ds.take j ++ d :: ds.drop (j + 1)))
                  | none => stk) h = _
                rw [ek]
                show bnd (guard' (decide (k ≤ ds.length))) _ h = _
                unfold guard'
                rw [if_pos (by rw [← ok.length]; exact g)]
                exact setC_of e1
              · rcases List.mem_cons.mp hm with z | z
                · rw [z]; exact .inl List.mem_cons_self
                · exact (s3 m z).elim .inr fun y => .inl (List.mem_cons_of_mem _ y)
            · rw [if_neg g] at eg; cases eg
      rcases main with z | ⟨e4, h2, F2, z1, z2, z3, z4⟩
      · rw [z]; trivial
      · rw [z1]
        show RelT h _ env [] _ (bnd (setA C dx f d) _ h)
        rw [bnd_of z2]
        exact ⟨env, h2, F2, rfl, z3, z4, fun _ _ => rfl, rfl⟩
theorem isVar_eq {a : CE} {j : Nat} (e : isVar a = some j) : a = .var j := by
  cases a <;> first | (cases e; done) | skip
  cases e
  rfl
end SX
end
section
set_option Elab.async false
set_option linter.all false
set_option maxRecDepth 100000
set_option maxHeartbeats 4000000
/-! VS9: all expressions on both sides. -/
namespace SX
open PySem
section
variable {C2 : Cx2} {C : Ctx} (SC : SimC C2 C)
include SC
theorem idxE_sim {a : CE} {m2 : M2 D} {m : Env → EM D} (qa : ArgSim C2 C a) (q : SimP m2 m) : SimV (bnd2 (argV (isVar a) (ev C2 a)) fun g => bnd2 m2 fun y => bnd2 (peek g) (idxV C2 y)) (fun env => bnd (evE C a env) fun x => bnd (m env) fun y => idxX C x y) :=
  arg_bind SC qa fun g d h S F e2 env r w dj => wait_bind SC (g := fun y env => idxX C d y) q w r dj fun y h e2 F r w dj => idx_peek SC w r dj y
theorem slcE_sim {a : CE} {l2 u2 : M2 (Option Int)} {l u : Env → EM (Option Int)} (qa : ArgSim C2 C a) (ql : SimP l2 l) (qu : SimP u2 u) : SimV (bnd2 (argV (isVar a) (ev C2 a)) fun g => bnd2 l2 fun l => bnd2 u2 fun u => bnd2 (peek g) (slcV l u)) (fun env => bnd (evE C a env) fun x => bnd (l env) fun l => bnd (u env) fun u => slcD x l u) :=
  arg_bind SC qa fun g d h S F e2 env r w dj => wait_bind SC (g := fun l env => bnd (u env) fun u => slcD d l u) ql w r dj fun y h e2 F r w dj => wait_bind SC (g := fun u env => slcD d y u) qu w r dj fun z h e2 F r w dj => slc_peek SC w r dj y z
theorem attE_sim {a : CE} (f : Nat) (qa : ArgSim C2 C a) : SimV (bnd2 (argV (isVar a) (ev C2 a)) fun g => bnd2 (peek g) (attV C2 f g)) (fun env => bnd (evE C a env) fun x => attX C f x) :=
  arg_bind SC (g := fun x env => attX C f x) qa fun g d h S F e2 env r w dj => att_peek SC w r dj f
theorem lenE_sim {a : CE} (qa : ArgSim C2 C a) : SimV (bnd2 (argV (isVar a) (ev C2 a)) fun g => bnd2 (peek g) (lenV C2)) (fun env => bnd (evL C (.one a .nil) env) fun vs => lenX C .len vs) := by
  have e : (fun env => bnd (evL C (.one a .nil) env) fun vs => lenX C .len vs) = fun env => bnd (evE C a env) fun x => lenX C .len [x] := by
    funext env
    show bnd (bnd (evE C a env) fun x => bnd (ret []) fun xs => ret (x :: xs)) _ = _
    rw [bnd_bnd]
    rfl
  rw [e]
  exact arg_bind SC (g := fun x env => lenX C .len [x]) qa fun g d h S F e2 env r w dj => len_peek SC w r dj
/-- arguments, then a call -/
theorem args_bind {γ δ : Type} {R' : LH → γ → δ → List Nat → Prop} {es : CL} (q : LSim C2 C es) {f : List Arg → M2 γ} {g : List D → Env → EM δ} (k : ∀ as ds h S F e2 env, ArgL h env as ds S → EOwn h e2 env F [] → (∀ n ∈ S, ∀ i, n ∉ F i) → RelE h (fun n => n ∈ S ∨ UE F n) env R' (f as e2) (g ds env h)) :
    SimM (bnd2 (evA C2 es) f) (fun env => bnd (evL C es env) fun d => g d env) R' := fun h e2 env F w =>
  (q.a h e2 env F w).bind fun a d h' S F' e2' r w' dj l => k a d h' S F' e2' env r w' dj
theorem cal_sim (f : Nat) {es : CL} (q : LSim C2 C es) : SimV (bnd2 (evA C2 es) fun as => callS (C2.fn f as.length) as) (fun env => bnd (evL C es env) fun vs => useD (C.fn f vs.length) vs) :=
  args_bind SC (g := fun vs env => useD (C.fn f vs.length) vs) q fun as ds h S F e2 env r w dj => by
    have e : as.length = ds.length := r.length
    rw [e]
    exact callS_sim w r dj (SC.fn _ _)
theorem clm_sim (f c : Nat) {es : CL} (q : LSim C2 C es) : SimV (bnd2 (evA C2 es) fun as => callS (C2.fn f (as.length + 1)) (.val (.fr (.cls c)) :: as)) (fun env => bnd (evL C es env) fun vs => useD (C.fn f (vs.length + 1)) (.cls c :: vs)) :=
  args_bind SC (g := fun vs env => useD (C.fn f (vs.length + 1)) (.cls c :: vs)) q fun as ds h S F e2 env r w dj => by
    have e : as.length = ds.length := r.length
    rw [e]
    have r2 : ArgL h env (.val (.fr (.cls c)) :: as) (.cls c :: ds) ([] ++ S) := .cons (.val (.fr _)) r (by simp)
    exact callS_sim (S := S) w r2 dj (SC.fn _ _)
theorem mkc_sim (c : Nat) {es : CL} (q : LSim C2 C es) : SimV (bnd2 (evA C2 es) fun as => makeS (C2.ini c as.length) c as) (fun env => bnd (evL C es env) fun vs => mkD C c vs) :=
  args_bind SC (g := fun vs env => mkD C c vs) q fun as ds h S F e2 env r w dj => by
    have e : as.length = ds.length := r.length
    rw [e]
    exact makeS_sim w r dj rfl (SC.ini _ _)
theorem mak_sim (c : Nat) {es : CL} (q : LSim C2 C es) : SimV (bnd2 (evA C2 es) fun as => bnd2 (makeS (C2.ini c as.length) c as) frzM) (fun env => bnd (evL C es env) fun vs => bnd (mkD C c vs) frzC) :=
  args_bind SC (g := fun vs env => bnd (mkD C c vs) frzC) q fun as ds h S F e2 env r w dj => by
    have e : as.length = ds.length := r.length
    rw [e]
    exact RelE.bind (makeS_sim w r dj rfl (SC.ini _ _)) fun v d h' S' F' e2' ov w' dj' l => frz_rel w' ov dj'
theorem mkv_sim (i c : Nat) {es : CL} (q : LSim C2 C es) : SimV (bnd2 (bnd2 (takeV i) asFr) fun x => match x with
    | .cls c' => if c' = c then bnd2 (evA C2 es) fun as => bnd2 (makeS (C2.ini c as.length) c as) frzM else stk2
    | _ => stk2) (fun env => bnd (getE env i) fun x => match x with
    | .cls c' => if c' = c then bnd (evL C es env) fun vs => bnd (mkD C c vs) frzC else stk
    | _ => stk) := SimP.bind (SimV.asFr (take_sim i)) fun x => by
  cases x <;> first | exact SimM.stk | skip
  rename_i c'
  dsimp only
  by_cases g : c' = c
  · simp only [if_pos g]
    exact mak_sim SC c q
  · simp only [if_neg g]
    exact SimM.stk
theorem mth_sim (m : Nat) {o : CE} {es : CL} (qo : ArgSim C2 C o) (q : LSim C2 C es) : SimV (bnd2 (argV (isVar o) (ev C2 o)) fun g => bnd2 (bnd2 (peek g) clsV) fun c => bnd2 (guard2 (C2.hasM c m)) fun _ => bnd2 (evA C2 es) fun as => callS (C2.mt c m as.length) (g :: as))
    (fun env => bnd (evE C o env) fun x => bnd (clsOf x) fun c => bnd (guard' (C.hasM c m)) fun _ => bnd (evL C es env) fun vs => useD (C.mt c m vs.length) (x :: vs)) :=
  arg_bind SC (g := fun x env => bnd (clsOf x) fun c => bnd (guard' (C.hasM c m)) fun _ => bnd (evL C es env) fun vs => useD (C.mt c m vs.length) (x :: vs)) qo fun g d h S F e2 env r w dj => by
    show RelE h _ env Own ((bnd2 (peek g) clsV e2).bnd _) _
    rcases cls_peek w r dj with z | ⟨c, z1, z2⟩
    · rw [z]; trivial
    · rw [z1]
      show RelE h _ env Own (bnd2 (guard2 (C2.hasM c m)) _ e2) (bnd (clsOf d) (fun c => bnd (guard' (C.hasM c m)) fun _ => bnd (evL C es env) fun vs => useD (C.mt c m vs.length) (d :: vs)) h)
      rw [bnd_of z2]
      by_cases hm : C2.hasM c m = true
      · unfold bnd2 guard2 guard'
        rw [if_pos hm, if_pos (SC.hasM c m hm)]
        show RelE h _ env Own ((evA C2 es e2).bnd fun as => callS (C2.mt c m as.length) (g :: as)) (bnd (evL C es env) (fun vs => useD (C.mt c m vs.length) (d :: vs)) h)
        -- the arguments, the object waiting
        have p := q.a h e2 env F w
        generalize evA C2 es e2 = r2 at p
        cases r2 with
        | stuck => trivial
        | ex x e3 =>
          obtain ⟨h', F', e1, p1, p2⟩ := p
          show RelE h _ env Own (.ex x e3) _
          unfold SX.bnd
          rw [e1]
          exact ⟨h', F', rfl, p1, p2.mono (fun n u => .inr u) fun n u => u⟩
        | ok as e3 =>
          obtain ⟨ds, h', T, F', e1, al, w', djT, lT, st⟩ := p
          rw [bnd_of e1]
          have hk : ∀ n ∈ S, h'[n]? = h[n]? := fun n hn => st.fr n (r.lt n hn) fun ⟨i, hi⟩ => dj n hn i hi
          have hd : ∀ n ∈ S, ¬ (n ∈ T ∨ UE F' n) := fun n hn z => by
            rcases st.sub n z with ⟨i, hi⟩ | z
            · exact dj n hn i hi
            · have := r.lt n hn; omega
          have al2 : ArgL h' env (g :: as) (d :: ds) (S ++ T) := .cons (r.fram hk) al fun n hn z => hd n hn (.inl z)
          have e : as.length = ds.length := al.length
          show RelE h _ env Own (callS (C2.mt c m as.length) (g :: as) e3) _
          rw [e]
          refine (callS_sim w' al2 (fun n hn i hi => ?_) (SC.mt _ _ _)).after (U1 := fun n => n ∈ S ++ T ∨ UE F' n) ⟨st.len, fun n hn u => st.fr n hn fun z => u (.inr z), fun n u => ?_⟩
          · rcases List.mem_append.mp hn with z | z
            · exact hd n z (.inr ⟨i, hi⟩)
            · exact djT n z i hi
          · rcases u with u | u
            · rcases List.mem_append.mp u with z | z
              · exact .inl (.inl z)
              · exact (st.sub n (.inl z)).imp .inr id
            · exact (st.sub n (.inr u)).imp .inr id
      · unfold bnd2 guard2
        rw [if_neg hm]
        trivial
theorem bmt_sim (m : BMt) {m2 : M2 D} {mo : Env → EM D} {l2 : M2 (List D)} {ml : Env → EM (List D)} (qo : SimP m2 mo) (q : SimP l2 ml) : SimV (bnd2 m2 fun x => bnd2 (lift2 (pureO (kindD m x))) fun _ => bnd2 l2 fun vs => bnd2 (lift2 (pureO (bmtD m x vs))) fun d => ret2 (.fr d))
    (fun env => bnd (mo env) fun x => bnd (kindD m x) fun _ => bnd (ml env) fun vs => bmtD m x vs) :=
  SimP.bind qo fun x => SimP.bind (po_kind m x).sim fun _ => SimP.bind q fun vs => opS (po_bmt m x vs)
theorem tupE_sim {m2 : M2 (List D)} {m : Env → EM (List D)} (q : SimP m2 m) (f : List D → D) : SimV (bnd2 m2 fun vs => bnd2 (guard2 (fitB vs.length)) fun _ => ret2 (.fr (f vs))) (fun env => bnd (m env) fun vs => bnd (guard' (fitB vs.length)) fun _ => ret (f vs)) :=
  SimP.bind q fun vs => SimP.bind (SimP.guard _) fun _ => SimV.fr _
theorem glo_sim (x : Nat) : SimV (bnd2 (lift2 (C2.gvs.lookup x)) fun d => ret2 (.fr d)) (fun _ => ofO (C.gvs.lookup x)) := by
  rw [SC.gvs]
  exact liftV_sim SC _
theorem nilL_sim : LSim C2 C .nil where
  d := SimP.ret []
  w := fun h e2 env F w => RelE.ret (S := []) (OwnL.nil) w (by simp) (by simp) fun n u => u.resolve_left (by simp)
  a := fun h e2 env F w => RelE.ret (S := []) (ArgL.nil) w (by simp) (by simp) fun n u => u.resolve_left (by simp)
  hd := fun _ _ e => by cases e
theorem oneL_sim {e : CE} {r : CL} (qe : SimV (ev C2 e) (evE C e)) (q : LSim C2 C r) : LSim C2 C (.one e r) where
  d := SimP.bind (SimV.asFr qe) fun x => SimP.bind q.d fun xs => SimP.ret _
  w := SimM.bind qe fun v d h S F e2 env ov w dj l => by
    refine (q.w.pend w dj l).bind fun vs ds h' S' F' e2' rr w' dj' l' => ?_
    obtain ⟨T, rfl, q1, q2, q3, q4⟩ := rr
    exact RelE.ret (OwnL.cons (ov.fram q4) q1 q2) w' dj' l' fun n u => u
  a := fun h0 e20 env F0 w0 => RelE.bind (R' := fun h as ds S => ArgL h env as ds S) (f := fun x => bnd2 (evA C2 r) fun xs => ret2 (x :: xs)) (g := fun x => bnd (evL C r env) fun xs => ret (x :: xs)) (arg_of SC qe h0 e20 env F0 w0) fun a d h S F e2 ra w dj _ => by
    have p := q.a h e2 env F w
    show RelE h _ env (fun h as ds S => ArgL h env as ds S) ((evA C2 r e2).bnd fun xs => ret2 (a :: xs)) (bnd (evL C r env) _ h)
    generalize evA C2 r e2 = r2 at p
    cases r2 with
    | stuck => trivial
    | ex x e3 =>
      obtain ⟨h', F', e1, p1, p2⟩ := p
      unfold SX.bnd
      rw [e1]
      exact ⟨h', F', rfl, p1, p2.mono (fun n u => .inr u) fun n u => u⟩
    | ok as e3 =>
      obtain ⟨ds, h', T, F', e1, al, w', djT, lT, st⟩ := p
      rw [bnd_of e1]
      have hk : ∀ n ∈ S, h'[n]? = h[n]? := fun n hn => st.fr n (ra.lt n hn) fun ⟨i, hi⟩ => dj n hn i hi
      have hd : ∀ n ∈ S, ¬ (n ∈ T ∨ UE F' n) := fun n hn z => by
        rcases st.sub n z with ⟨i, hi⟩ | z
        · exact dj n hn i hi
        · have := ra.lt n hn; omega
      refine ⟨d :: ds, h', S ++ T, F', rfl, .cons (ra.fram hk) al fun n hn z => hd n hn (.inl z), w', fun n hn i hi => ?_, fun n hn => ?_, ⟨st.len, fun n hn u => st.fr n hn fun z => u (.inr z), fun n u => ?_⟩⟩
      · rcases List.mem_append.mp hn with z | z
        · exact hd n z (.inr ⟨i, hi⟩)
        · exact djT n z i hi
      · rcases List.mem_append.mp hn with z | z
        · exact Nat.lt_of_lt_of_le (ra.lt n z) st.len
        · exact lT n z
      · rcases u with u | u
        · rcases List.mem_append.mp u with z | z
          · exact .inl (.inl z)
          · exact (st.sub n (.inl z)).imp .inr id
        · exact (st.sub n (.inr u)).imp .inr id
  hd := fun e' r' h => by cases h; exact arg_of SC qe
omit SC in
theorem frArgs_app {h : LH} {env : Env} {as : List Arg} {ds : List D} {T : List Nat} (q : ArgL h env as ds T) : ∀ l : List D, ArgL h env ((l.map fun d => .val (.fr d)) ++ as) (l ++ ds) T
  | [] => q
  | d :: l => .cons (S := []) (.val (.fr d)) (frArgs_app q l) (by simp)
theorem staL_sim {e : CE} {r : CL} (qe : SimV (ev C2 e) (evE C e)) (q : LSim C2 C r) : LSim C2 C (.sta e r) where
  d := SimP.bind (SimV.asFr qe) fun x => by
    cases x <;> first | exact SimM.stk | exact SimP.bind q.d fun xs => SimP.ret _
  w := SimM.stk
  a := fun h e2 env F w => by
    have p := SimV.asFr qe h e2 env F w
    show RelE h _ env (fun h as ds S => ArgL h env as ds S) ((bnd2 (ev C2 e) asFr e2).bnd _) (bnd (evE C e env) _ h)
    refine RelE.bind p fun x d h' S' F' e2' rr w' dj' l' => ?_
    obtain ⟨rfl, rfl⟩ := rr
    have fin : ∀ l : List D, RelE h' (fun n => n ∈ ([] : List Nat) ∨ UE F' n) env (fun h as ds S => ArgL h env as ds S) (bnd2 (evA C2 r) (fun xs => ret2 ((l.map fun d => .val (.fr d)) ++ xs)) e2') (bnd (evL C r env) (fun xs => ret (l ++ xs)) h') := fun l => by
      have p2 := q.a h' e2' env F' w'
      refine (RelE.bind p2 fun as ds h2 S2 F2 e3 al w2 dj2 l2 => ?_).mono fun n u => .inr u
      exact RelE.ret (frArgs_app al l) w2 dj2 l2 fun n u => u
    cases x <;> first | trivial | exact fin _
  hd := fun _ _ h => by cases h
theorem fmt_sim {m2 : M2 D} {m : Env → EM D} (q : SimP m2 m) {r2 : Str → M2 Str} {r : Env → Str → EM Str} (p : ∀ acc, SimP (r2 acc) (fun env => r env acc)) (acc : Str) : SimP (bnd2 m2 fun x => bnd2 (lift2 (pureO (fmtD x))) fun s => bnd2 (guard2 (fitB (acc.length + s.length))) fun _ => r2 (acc ++ s))
    (fun env => bnd (m env) fun x => bnd (fmtD x) fun s => bnd (guard' (fitB (acc.length + s.length))) fun _ => r env (acc ++ s)) :=
  SimP.bind q fun x => SimP.bind (po_fmt x).sim fun s => SimP.bind (SimP.guard _) fun _ => p _
mutual
theorem okE2 : (e : CE) → SimV (ev C2 e) (evE C e)
  | .con d => SimV.fr d
  | .var i => take_sim i
  | .frz i => frzV_sim i
  | .glo x => glo_sim SC x
  | .neg e => neg_sim SC (SimV.asFr (okE2 e))
  | .bin o a b => SimP.bind (SimV.asFr (okE2 a)) fun x => SimP.bind (SimV.asFr (okE2 b)) fun y => add_sim SC o x y
  | .cmp o a b => SimP.bind (SimV.asFr (okE2 a)) fun x => SimP.bind (SimV.asFr (okE2 b)) fun y => SimP.bind (cmp_sim SC o x y) fun k => SimV.fr _
  | .chn o p a b c => chn_sim SC o p (SimV.asFr (okE2 a)) (SimV.asFr (okE2 b)) (SimV.asFr (okE2 c))
  | .and a b => and_sim SC (SimV.asFr (okE2 a)) (okE2 b)
  | .or a b => or_sim SC (SimV.asFr (okE2 a)) (okE2 b)
  | .not a => SimP.bind (SimV.asFr (okE2 a)) fun x => bl_sim SC (po_tru x).sim not
  | .ite c a b => cond_sim SC (SimV.asFr (okE2 c)) (okE2 a) (okE2 b)
  | .tup es => tupE_sim SC (okL2 es).d .tup
  | .lst es => tupE_sim SC (okL2 es).d .lst
  | .lsc es => lsc_sim SC (okL2 es).d
  | .dcc ks es => dcc_sim SC (okL2 es).w
  | .gin x a neg => SimP.bind (SimV.asFr (okE2 a)) fun d => gin_sim SC x neg d
  | .gix x a => SimP.bind (SimV.asFr (okE2 a)) fun d => gix_sim SC x d
  | .idx a i => idxE_sim SC (arg_of SC (okE2 a)) (SimV.asFr (okE2 i))
  | .slc a lo hi => slcE_sim SC (arg_of SC (okE2 a)) (okO2 lo).1 (okO2 hi).1
  | .rev a => rev_sim SC (SimV.asFr (okE2 a))
  | .att e f => attE_sim SC f (arg_of SC (okE2 e))
  | .cal f es => cal_sim SC f (okL2 es)
  | .mak c es => mak_sim SC c (okL2 es)
  | .mkc c es => mkc_sim SC c (okL2 es)
  | .clm f c es => clm_sim SC f c (okL2 es)
  | .mkv i c es => mkv_sim SC i c (okL2 es)
  | .mth o m es => mth_sim SC m (arg_of SC (okE2 o)) (okL2 es)
  | .blt b es => by
    have q := okL2 es
    have gen : SimV (bnd2 (evD C2 es) fun vs => lenX2 C2 b vs) (fun env => bnd (evL C es env) fun vs => lenX C b vs) := SimP.bind q.d fun vs => len_sim SC b vs
    cases b <;> first | exact gen | skip
    rcases es with _ | ⟨e, r⟩ | ⟨e, r⟩
    · exact gen
    · rcases r with _ | ⟨e', r⟩ | ⟨e', r⟩
      · exact lenE_sim SC (q.hd e .nil rfl)
      · exact gen
      · exact gen
    · exact gen
  | .bmt m o es => by
    have q := okL2 es
    have qo := okE2 o
    show SimV (if mutM m = true then _ else _) _
    by_cases hm : mutM m = true
    · rw [if_pos hm]
      cases hv : isVar o with
      | none => exact SimM.stk
      | some i =>
        have := isVar_eq hv
        subst this
        exact mut_sim SC m hm i q.w
    · rw [if_neg hm]
      exact bmt_sim SC m (SimV.asFr qo) q.d
  | .isi e ts => SimP.bind (SimV.asFr (okE2 e)) fun d => isi_sim SC ts d
  | .com own t i c e => by
    have qi := okI2 i
    have qt := okT2 t
    have qc := (okO2 c).2
    have qe := okE2 e
    show SimV (if _ then _ else _) _
    by_cases g : ((tgsT t).all fun x => own.contains x) = true
    · rw [if_pos g]
      exact com_sim qi qt (fun x hx => by
        have := List.all_eq_true.mp g x hx
        rw [List.contains_eq_mem] at this
        exact of_decide_eq_true this) qc (SimV.asFr qe)
    · rw [if_neg g]
      exact SimM.stk
  | .fst es => fst_sim SC (okF2 es Str.empty)
  | .hol => SimM.stk
  | .dnw => dnw_sim SC
theorem okL2 : (es : CL) → LSim C2 C es
  | .nil => nilL_sim SC
  | .one e r => oneL_sim SC (okE2 e) (okL2 r)
  | .sta e r => staL_sim SC (okE2 e) (okL2 r)
theorem okO2 : (o : CO) → SimP (evO2 C2 o) (evO C o) ∧ SimP (evT2 C2 o) (evT C o)
  | .no => ⟨SimP.ret none, SimP.ret true⟩
  | .so e => ⟨SimP.bind (SimV.asFr (okE2 e)) fun x => (po_part x).sim, SimP.bind (SimV.asFr (okE2 e)) fun x => (po_tru x).sim⟩
theorem okI2 : (i : CI) → SimP (evI2 C2 i) (evI C i)
  | .seq e => SimP.bind (SimV.asFr (okE2 e)) fun x => (po_its x).sim
  | .rng a => SimP.bind (SimV.asFr (okE2 a)) fun x => (po_rng x).sim
  | .rng2 a b => SimP.bind (SimV.asFr (okE2 a)) fun x => SimP.bind (SimV.asFr (okE2 b)) fun y => (po_rng2 x y).sim
  | .rng3 a b c => SimP.bind (SimV.asFr (okE2 a)) fun x => SimP.bind (SimV.asFr (okE2 b)) fun y => (po_rng3 c x y).sim
  | .enu e => SimP.bind (SimV.asFr (okE2 e)) fun x => (po_enu x).sim
  | .zip a b => SimP.bind (SimV.asFr (okE2 a)) fun x => SimP.bind (SimV.asFr (okE2 b)) fun y => (po_zip x y).sim
theorem okT2 : (t : CT) → TSim (as2 C2 t) (asT C t) (tgsT t)
  | .nam i => nam_sim i
  | .tup ts => tup_sim ts.len (okTs2 ts)
  | .sub a i => by
    have qi := SimV.asFr (okE2 i)
    intro h e2 env F v d S w o hS
    show RelT h _ env [] ((match isVar a with
      | some j => bnd2 (peek (.bor j)) fun _ => bnd2 (bnd2 (ev C2 i) asFr) fun y => updV j (subV y v)
      | none => stk2) e2) _
    cases hv : isVar a with
    | none => trivial
    | some j =>
      have := isVar_eq hv
      subst this
      exact sub_sim j qi h e2 env F v d S w o hS
  | .hdt i j => hdt_sim i j
  | .att a f => by
    intro h e2 env F v d S w o hS
    show RelT h _ env [] ((match isVar a with
      | some j => updV j (fldV C2 f v)
      | none => stk2) e2) _
    cases hv : isVar a with
    | none => trivial
    | some j =>
      have := isVar_eq hv
      subst this
      exact att_sim SC j f h e2 env F v d S w o hS
theorem okTs2 : (ts : CTL) → ∀ h e2 env F ds, EOwn h e2 env F [] → RelT h (UE F) env (tgsL ts) (as2s C2 ts ds e2) (asTs C ts ds env h)
  | .nil, h, e2, env, F, ds, w => by
    cases ds with
    | nil => exact ⟨env, h, F, rfl, w, Step.refl fun n u => u, fun _ _ => rfl, rfl⟩
    | cons d l => trivial
  | .cons t r, h, e2, env, F, ds, w => by
    have qt := okT2 t
    have qr := okTs2 r
    cases ds with
    | nil => trivial
    | cons d l => exact cons_sim qt qr d l w
theorem okF2 : (es : CL) → ∀ acc, SimP (evF2 C2 es acc) (fun env => evF C es env acc)
  | .nil, acc => SimP.ret acc
  | .one e r, acc => fmt_sim SC (r := fun env acc => evF C r env acc) (SimV.asFr (okE2 e)) (okF2 r) acc
  | .sta _ _, acc => SimM.stk
end
end
end SX
end
section
set_option Elab.async false
set_option linter.all false
set_option maxRecDepth 100000
set_option maxHeartbeats 4000000
/-! VS10: statements and defs on both sides. -/
namespace SX
open PySem
def FlR (h : LH) : Fl2 → Fl → List Nat → Prop
  | .nx, .nx, S => S = []
  | .brk, .brk, S => S = []
  | .cnt, .cnt, S => S = []
  | .ret v, .ret d, S => Own h v d S
  | _, _, _ => False
def RelS (h : LH) (U : Nat → Prop) (env : Env) (T : List Nat) : R2 Fl2 → SRes → Prop
  | .ok f e2, r => ∃ f' env1 h' S F, r = .go f' env1 h' ∧ FlR h' f f' S ∧ EOwn h' e2 env1 F [] ∧ (∀ n ∈ S, ∀ i, n ∉ F i) ∧ Step h U h' (fun n => n ∈ S ∨ UE F n) ∧ (∀ i, i ∉ T → env1[i]? = env[i]?) ∧ env1.length = env.length
  | .ex x e2, r => ∃ env1 h' F, r = .ex x env1 h' ∧ EOwn h' e2 env1 F [] ∧ Step h U h' (UE F) ∧ (∀ i, i ∉ T → env1[i]? = env[i]?) ∧ env1.length = env.length
  | .stuck, _ => True
def SSim (m2 : M2 Fl2) (m : Env → SM) (T : List Nat) : Prop := ∀ h e2 env F, EOwn h e2 env F [] → RelS h (UE F) env T (m2 e2) (m env h)
theorem RelS.after {h h1 : LH} {U U1 : Nat → Prop} {env env1 : Env} {T T' T'' : List Nat} (s : Step h U h1 U1) {r2 : R2 Fl2} {r : SRes} (p : RelS h1 U1 env1 T r2 r) (ag : ∀ i, i ∉ T' → env1[i]? = env[i]?) (hl : env1.length = env.length) (h1' : ∀ i, i ∈ T' → i ∈ T'') (h2' : ∀ i, i ∈ T → i ∈ T'') : RelS h U env T'' r2 r := by
  cases r2 with
  | stuck => trivial
  | ok a e2 =>
    obtain ⟨f', env2, h', S, F, e, q1, q2, q3, q4, q5, q6⟩ := p
    exact ⟨f', env2, h', S, F, e, q1, q2, q3, s.trans q4, fun i hi => (q5 i fun z => hi (h2' i z)).trans (ag i fun z => hi (h1' i z)), q6.trans hl⟩
  | ex x e2 =>
    obtain ⟨env2, h', F, e, q2, q4, q5, q6⟩ := p
    exact ⟨env2, h', F, e, q2, s.trans q4, fun i hi => (q5 i fun z => hi (h2' i z)).trans (ag i fun z => hi (h1' i z)), q6.trans hl⟩
theorem RelS.mono {h : LH} {U U' : Nat → Prop} {env : Env} {T T' : List Nat} {r2 : R2 Fl2} {r : SRes} (p : RelS h U env T r2 r) (u : ∀ n, U n → U' n) (t : ∀ i, i ∈ T → i ∈ T') : RelS h U' env T' r2 r :=
  RelS.after (T' := []) (Step.refl u) p (fun _ _ => rfl) rfl (by simp) t
theorem RelS.bindE {α β : Type} {h : LH} {U : Nat → Prop} {env : Env} {T : List Nat} {R : LH → α → β → List Nat → Prop} {r2 : R2 α} {m : EM β} {f : α → M2 Fl2} {g : β → SM} (p : RelE h U env R r2 (m h)) (k : ∀ a b h' S F e2, R h' a b S → EOwn h' e2 env F [] → (∀ n ∈ S, ∀ i, n ∉ F i) → (∀ n ∈ S, n < h'.length) → RelS h' (fun n => n ∈ S ∨ UE F n) env T (f a e2) (g b h')) : RelS h U env T (r2.bnd f) (sE env m g h) := by
  unfold sE
  cases r2 with
  | stuck => trivial
  | ok a e2 =>
    obtain ⟨b, h', S, F, e, q1, q2, q3, q4, q5⟩ := p
    rw [e]
    exact (k a b h' S F e2 q1 q2 q3 q4).after (T' := []) q5 (fun _ _ => rfl) rfl (by simp) fun _ z => z
  | ex x e2 =>
    obtain ⟨h', F, e, q2, q5⟩ := p
    rw [e]
    exact ⟨env, h', F, rfl, q2, q5, fun _ _ => rfl, rfl⟩
theorem sE_of {α : Type} {env : Env} {m : EM α} {f : α → SM} {h h' : LH} {a : α} (e : m h = .ok a h') : sE env m f h = f a h' := by
  unfold sE; rw [e]
theorem sE_ex {α : Type} {env : Env} {m : EM α} {f : α → SM} {h h' : LH} {x : Exn} (e : m h = .ex x h') : sE env m f h = .ex x env h' := by
  unfold sE; rw [e]
theorem SSim.bindP {α : Type} {m2 : M2 α} {m : Env → EM α} {f : α → M2 Fl2} {g : α → Env → SM} {T : List Nat} (p : SimP m2 m) (k : ∀ a, SSim (f a) (g a) T) : SSim (bnd2 m2 f) (fun env => sE env (m env) fun a => g a env) T := fun h e2 env F w =>
  RelS.bindE (p h e2 env F w) fun a b h' S F' e2' r w' dj l => by
    obtain ⟨rfl, rfl⟩ := r
    exact (k a h' e2' env F' w').mono (fun n u => .inr u) fun i z => z
theorem SSim.go (f2 : Fl2) (f : Fl) (e : ∀ h, FlR h f2 f []) (T : List Nat) : SSim (ret2 f2) (fun env => sGo f env) T := fun h e2 env F w => ⟨f, env, h, [], F, rfl, e h, w, by simp, Step.refl fun n u => u.resolve_left (by simp), fun _ _ => rfl, rfl⟩
theorem SSim.stk {m : Env → SM} {T : List Nat} : SSim stk2 m T := fun h e2 env F w => trivial
theorem SSim.mono {m2 : M2 Fl2} {m : Env → SM} {T T' : List Nat} (p : SSim m2 m T) (t : ∀ i, i ∈ T → i ∈ T') : SSim m2 m T' := fun h e2 env F w => (p h e2 env F w).mono (fun _ u => u) t
theorem seq_sim {m2 n2 : M2 Fl2} {m n : Env → SM} {T T' : List Nat} (p : SSim m2 m T) (q : SSim n2 n T') : SSim (seq2 m2 n2) (fun env => sSeq (m env) n) (T ++ T') := fun h e2 env F w => by
  have a := p h e2 env F w
  show RelS h _ env _ ((m2 e2).bnd _) (sSeq (m env) n h)
  unfold sSeq
  generalize m2 e2 = r2 at a
  cases r2 with
  | stuck => trivial
  | ex x e3 =>
    obtain ⟨env1, h', F', e, a1, a2, a3, a4⟩ := a
    rw [e]
    exact ⟨env1, h', F', rfl, a1, a2, fun i hi => a3 i fun z => hi (List.mem_append_left _ z), a4⟩
  | ok f e3 =>
    obtain ⟨f', env1, h', S, F', e, a1, a2, a3, a4, a5, a6⟩ := a
    rw [e]
    have keep : ∀ g, f = g → RelS h (UE F) env (T ++ T') (.ok g e3) (.go f' env1 h') := fun g hg => ⟨f', env1, h', S, F', rfl, hg ▸ a1, a2, a3, a4, fun i hi => a5 i fun z => hi (List.mem_append_left _ z), a6⟩
    cases f <;> cases f' <;> first | (cases a1; done) | skip
    · cases a1
      exact (q h' e3 env1 F' a2).after (a4.mono (fun _ u => u) fun n u => .inr u) a5 a6 (fun i z => List.mem_append_left _ z) fun i z => List.mem_append_right _ z
    · exact keep _ rfl
    · exact keep _ rfl
    · exact keep _ rfl
theorem trn_sim {m2 n2 : M2 Fl2} {m n : Env → SM} {T T' : List Nat} (p : SSim m2 m T) (q : SSim n2 n T') : SSim (trn2 m2 n2) (fun env => sTurn (m env) n) (T ++ T') := fun h e2 env F w => by
  have a := p h e2 env F w
  show RelS h _ env _ ((m2 e2).bnd _) (sTurn (m env) n h)
  unfold sTurn
  generalize m2 e2 = r2 at a
  cases r2 with
  | stuck => trivial
  | ex x e3 =>
    obtain ⟨env1, h', F', e, a1, a2, a3, a4⟩ := a
    rw [e]
    exact ⟨env1, h', F', rfl, a1, a2, fun i hi => a3 i fun z => hi (List.mem_append_left _ z), a4⟩
  | ok f e3 =>
    obtain ⟨f', env1, h', S, F', e, a1, a2, a3, a4, a5, a6⟩ := a
    rw [e]
    cases f <;> cases f' <;> first | (cases a1; done) | skip
    · cases a1
      exact (q h' e3 env1 F' a2).after (a4.mono (fun _ u => u) fun n u => .inr u) a5 a6 (fun i z => List.mem_append_left _ z) fun i z => List.mem_append_right _ z
    · exact ⟨_, env1, h', S, F', rfl, a1, a2, a3, a4, fun i hi => a5 i fun z => hi (List.mem_append_left _ z), a6⟩
    · cases a1
      exact ⟨.nx, env1, h', [], F', rfl, rfl, a2, a3, a4, fun i hi => a5 i fun z => hi (List.mem_append_left _ z), a6⟩
    · cases a1
      exact (q h' e3 env1 F' a2).after (a4.mono (fun _ u => u) fun n u => .inr u) a5 a6 (fun i z => List.mem_append_left _ z) fun i z => List.mem_append_right _ z
/-- a store, then more -/
theorem store_sim {α : Type} {m2 : Vl → M2 Unit} {m : D → Env → EM Env} {T T' : List Nat} (q : TSim m2 m T) {n2 : M2 Fl2} {n : Env → SM} (p : SSim n2 n T') {h : LH} {e2 : VE} {env : Env} {F : Nat → List Nat} {v : Vl} {d : D} {S : List Nat} (w : EOwn h e2 env F []) (o : Own h v d S) (hS : ∀ n ∈ S, ∀ i, n ∉ F i) :
    RelS h (fun n => n ∈ S ∨ UE F n) env (T ++ T') (bnd2 (noEx2 (m2 v)) (fun _ => n2) e2) (sE env (noEx (m d env)) n h) := by
  have a := q h e2 env F v d S w o hS
  show RelS h _ env _ (((m2 v e2).noEx).bnd fun _ => n2) _
  generalize m2 v e2 = r2 at a
  cases r2 with
  | stuck => trivial
  | ex _ _ => trivial
  | ok u e3 =>
    obtain ⟨env1, h1, F1, a1, a2, a3, a4, a5⟩ := a
    have e : SX.noEx (m d env) h = .ok env1 h1 := by unfold SX.noEx; rw [a1]
    unfold sE
    rw [e]
    exact (p h1 e3 env1 F1 a2).after a3 a4 a5 (fun i z => List.mem_append_left _ z) fun i z => List.mem_append_right _ z
theorem for_sim {m2 : Vl → M2 Unit} {m : D → Env → EM Env} {T T' : List Nat} (q : TSim m2 m T) {b2 : M2 Fl2} {b : Env → SM} (p : SSim b2 b T') : ∀ its : List D, SSim (for2 m2 b2 its) (fun env => forL m b its env) (T ++ T')
  | [] => SSim.go .nx .nx (fun _ => rfl) _
  | d :: l => fun h e2 env F w => by
    have r := (store_sim (α := Unit) q (trn_sim p (for_sim q p l)) w (.fr d) (S := []) (by simp))
    refine RelS.mono r (fun n u => u.resolve_left (by simp)) fun i z => ?_
    simp only [List.mem_append] at z ⊢
    rcases z with z | z | z | z
    · exact .inl z
    · exact .inr z
    · exact .inl z
    · exact .inr z
theorem whl_sim {c2 : M2 Bool} {c : Env → EM Bool} (q : SimP c2 c) {b2 : M2 Fl2} {b : Env → SM} {T : List Nat} (p : SSim b2 b T) : ∀ n : Nat, SSim (whl2 c2 b2 n) (fun env => whlL c b n env) T
  | 0 => SSim.stk
  | n + 1 => SSim.bindP (g := fun k env => if k = true then sTurn (b env) (fun env2 => whlL c b n env2) else sGo .nx env) q fun k => by
    cases k
    · exact SSim.go .nx .nx (fun _ => rfl) _
    · exact (trn_sim p (whl_sim q p n)).mono fun i z => (List.mem_append.mp z).elim id id
theorem names_len : ∀ {ts : CTL} {is : List Nat}, names ts = some is → is.length = ts.len
  | .nil, is, e => by cases e; rfl
  | .cons t r, is, e => by
    cases t <;> try (cases e; done)
    rename_i i
    have e : (names r).map (i :: ·) = some is := e
    cases e1 : names r with
    | none => rw [e1] at e; cases e
    | some js =>
      rw [e1] at e
      cases e
      exact congrArg (· + 1) (names_len e1)
theorem names_sim (C : Ctx) {h : LH} : ∀ {ts : CTL} {is : List Nat} {vs : List Vl} {ds : List D} {S : List Nat} {e2 e2' : VE} {env : Env} {F : Nat → List Nat}, names ts = some is → OwnL h vs ds S → EOwn h e2 env F [] → (∀ n ∈ S, ∀ i, n ∉ F i) → setsV is vs e2 = .ok () e2' →
    ∃ env1 F1, asTs C ts ds env h = .ok env1 h ∧ EOwn h e2' env1 F1 [] ∧ (∀ n, UE F1 n → n ∈ S ∨ UE F n) ∧ (∀ i, i ∉ tgsL ts → env1[i]? = env[i]?) ∧ env1.length = env.length
  | .nil, is, vs, ds, S, e2, e2', env, F, en, o, w, dj, es => by
    cases en
    cases o with
    | nil =>
      cases es
      exact ⟨env, F, rfl, w, fun n u => .inr u, fun _ _ => rfl, rfl⟩
    | cons _ _ _ => cases es
  | .cons t r, is, vs, ds, S, e2, e2', env, F, en, o, w, dj, es => by
    cases t <;> try (cases en; done)
    rename_i i
    have en : (names r).map (i :: ·) = some is := en
    cases e1 : names r with
    | none => rw [e1] at en; cases en
    | some js =>
      rw [e1] at en
      cases en
      cases o with
      | nil => cases es
      | @cons v d S1 T1 vs ds o1 r1 q1 =>
        have es : setsV js vs (e2.set i (some v)) = .ok () e2' := es
        have w1 := w.bind (i := i) o1 fun n hn j => dj n (List.mem_append_left _ hn) j
        obtain ⟨env1, F1, a1, a2, a3, a4, a5⟩ := names_sim C e1 r1 w1 (fun n hn j hj => by
          rcases UE_up ⟨j, hj⟩ with z | ⟨k, z⟩
          · exact q1 n z hn
          · exact dj n (List.mem_append_right _ hn) k z) es
        refine ⟨env1, F1, ?_, a2, fun n u => ?_, fun j hj => ?_, a5.trans (by simp)⟩
        · show bnd (ret (env.set i (some d))) _ h = _
          exact a1
        · rcases a3 n u with z | z
          · exact .inl (List.mem_append_right _ z)
          · exact (UE_up z).imp (List.mem_append_left _) id
        · have hj : j ∉ [i] ++ tgsL r := hj
          rw [List.mem_append, not_or] at hj
          rw [a4 j hj.2, List.getElem?_set_ne (fun z => hj.1 (by rw [z]; exact List.mem_singleton.mpr rfl))]
section
variable {C2 : Cx2} {C : Ctx} (SC : SimC C2 C)
include SC
theorem par_sim {ts : CTL} {es : CL} {is : List Nat} (en : names ts = some is) (hl : is.length = es.len) (no : noOne es = true) (q : SimM (evW C2 es) (evL C es) OwnL) :
    SSim (bnd2 (evW C2 es) fun vs => bnd2 (guard2 (fitB vs.length)) fun _ => bnd2 (setsV is vs) fun _ => ret2 .nx) (evS C (.asg (.tup ts) (.tup es))) (tgsL ts) := fun h e2 env F w => by
  show RelS h _ env _ ((evW C2 es e2).bnd _) (sE env (bnd (evL C es env) fun vs => bnd (guard' (fitB vs.length)) fun _ => ret (.tup vs)) (fun d => sE env (noEx (tupT ts.len (asTs C ts) d env)) fun env1 => sGo .nx env1) h)
  have hlen := fun h' ds => evL_len C es env h h' ds no
  have p := q h e2 env F w
  generalize evW C2 es e2 = r2 at p
  cases r2 with
  | stuck => trivial
  | ex x e3 =>
    obtain ⟨h', F', e, p1, p2⟩ := p
    rw [sE_ex (x := x) (h' := h') (by unfold SX.bnd; rw [e])]
    exact ⟨env, h', F', rfl, p1, p2, fun _ _ => rfl, rfl⟩
  | ok vs e3 =>
    obtain ⟨ds, h', S, F', e, o, w', dj, lS, st⟩ := p
    have hd := hlen h' ds e
    show RelS h _ env _ ((guard2 (fitB vs.length) e3).bnd fun _ => bnd2 (setsV is vs) fun _ => ret2 .nx) _
    by_cases g : fitB vs.length = true
    · have g2 : fitB ds.length = true := by rw [← o.length]; exact g
      have em : (bnd (evL C es env) fun vs => bnd (guard' (fitB vs.length)) fun _ => ret (D.tup vs)) h = .ok (D.tup ds) h' := by
        rw [bnd_of e]
        unfold guard'
        rw [if_pos g2]
        rfl
      rw [sE_of em]
      unfold guard2
      rw [if_pos g]
      show RelS h _ env _ ((setsV is vs e3).bnd fun _ => ret2 .nx) (sE env (noEx (if ds.length = ts.len then asTs C ts ds env else stk)) (fun env1 => sGo .nx env1) h')
      rw [if_pos (by rw [hd, ← hl, names_len en])]
      cases e5 : setsV is vs e3 with
      | stuck => trivial
      | ex x e => exact absurd e5 (by
          have : ∀ (is : List Nat) (vs : List Vl) (e3 : VE), setsV is vs e3 ≠ .ex x e := fun is => by
            induction is with
            | nil => intro vs e3; cases vs <;> (intro z; cases z)
            | cons i is ih =>
              intro vs e3
              cases vs with
              | nil => intro z; cases z
              | cons v vs => exact ih vs (e3.set i (some v))
          exact this _ _ _)
      | ok u e6 =>
        obtain ⟨env1, F1, a1, a2, a3, a4, a5⟩ := names_sim C en o w' dj e5
        have e7 : SX.noEx (asTs C ts ds env) h' = .ok env1 h' := by unfold SX.noEx; rw [a1]
        rw [sE_of e7]
        exact ⟨.nx, env1, h', [], F1, rfl, rfl, a2, by simp, ⟨st.len, st.fr, fun n u => by
          rcases a3 n (u.resolve_left (by simp)) with z | z
          · exact st.sub n (.inl z)
          · exact st.sub n (.inr z)⟩, a4, a5⟩
    · unfold guard2
      rw [if_neg g]
      trivial
theorem aug_sim (i : Nat) (o : BOp) {e : CE} (qe : SimV (ev C2 e) (evE C e)) : SSim (es2 C2 (.aug i o e)) (evS C (.aug i o e)) [i] := fun h e2 env F w => by
  have fin : ∀ (z : D), SSim (bnd2 (setV i (.fr z)) fun _ => ret2 .nx) (fun env => sGo .nx (env.set i (some z))) [i] := fun z h e2 env F w => by
    have w1 := w.bind (i := i) (S := []) (Own.fr z) (by simp)
    exact ⟨.nx, _, h, [], _, rfl, rfl, w1, by simp, Step.refl fun n u => (UE_up (u.resolve_left (by simp))).resolve_left (by simp), fun j hj => List.getElem?_set_ne fun z => hj (by rw [z]; exact List.mem_singleton.mpr rfl), by simp⟩
  refine RelS.bindE (m := getE env i) (SimV.asFr (take_sim i) h e2 env F w) fun x x' h1 S F1 e3 r w1 dj l => ?_
  obtain ⟨rfl, rfl⟩ := r
  refine RelS.mono (U := UE F1) (T := [i]) (RelS.bindE (m := evE C e env) (SimV.asFr qe h1 e3 env F1 w1) fun y y' h2 S F2 e4 r w2 dj l => ?_) (fun n u => .inr u) fun i z => z
  obtain ⟨rfl, rfl⟩ := r
  unfold augD
  cases x <;> first | trivial | skip
  cases y <;> first | trivial | skip
  exact (SSim.bindP (g := fun z env => sGo .nx (env.set i (some z))) (po_bin _ _ _).sim fin h2 e4 env F2 w2).mono (fun n u => .inr u) fun i z => z
mutual
theorem okS2 : (s : CS) → SSim (es2 C2 s) (evS C s) (tgs s)
  | .asg t e => by
    have one : SSim (bnd2 (ev C2 e) fun v => bnd2 (noEx2 (as2 C2 t v)) fun _ => ret2 .nx) (evS C (.asg t e)) (tgsT t) := fun h e2 env F w =>
      RelS.bindE (okE2 SC e h e2 env F w) fun v d h' S F' e2' o w' dj l => (store_sim (α := Unit) (okT2 SC t) (SSim.go .nx .nx (fun _ => rfl) []) w' o dj).mono (fun n u => u) fun i z => by simpa using z
    show SSim (match parA t e with
      | some (is, es) => bnd2 (evW C2 es) fun vs => bnd2 (guard2 (fitB vs.length)) fun _ => bnd2 (setsV is vs) fun _ => ret2 .nx
      | none => bnd2 (ev C2 e) fun v => bnd2 (noEx2 (as2 C2 t v)) fun _ => ret2 .nx) _ (tgsT t)
    cases ep : parA t e with
    | none => exact one
    | some p =>
      obtain ⟨is, es⟩ := p
      cases t <;> try (cases ep; done)
      cases e <;> try (cases ep; done)
      rename_i ts es'
      have ep : (match names ts with
        | some is => if is.length == es'.len && noOne es' then some (is, es') else none
        | none => none) = some (is, es) := ep
      cases en : names ts with
      | none => rw [en] at ep; cases ep
      | some js =>
        rw [en] at ep
        dsimp only at ep
        by_cases g : (js.length == es'.len && noOne es') = true
        · rw [if_pos g] at ep
          cases ep
          rw [Bool.and_eq_true] at g
          exact par_sim SC en (eq_of_beq g.1) g.2 (okL2 SC _).w
        · rw [if_neg g] at ep; cases ep
  | .aug i o e => aug_sim SC i o (okE2 SC e)
  | .exp e => fun h e2 env F w => RelS.bindE (okE2 SC e h e2 env F w) fun v d h' S F' e2' o w' dj l => (SSim.go .nx .nx (fun _ => rfl) [] h' e2' env F' w').mono (fun n u => .inr u) fun i z => z
  | .ret e => fun h e2 env F w => RelS.bindE (okE2 SC e h e2 env F w) fun v d h' S F' e2' o w' dj l => ⟨.ret d, env, h', S, F', rfl, o, w', dj, Step.refl fun n u => u, fun _ _ => rfl, rfl⟩
  | .retN => SSim.go (.ret (.fr .non)) (.ret .non) (fun _ => .fr _) _
  | .ite c a b => SSim.bindP (g := fun k env => if k = true then evSs C a env else evSs C b env) (SimP.bind (SimV.asFr (okE2 SC c)) fun x => (po_tru x).sim) fun k => by
    have qa := okSs2 a
    have qb := okSs2 b
    cases k
    · exact qb.mono fun i z => List.mem_append_right _ z
    · exact qa.mono fun i z => List.mem_append_left _ z
  | .for_ t i b => SSim.bindP (g := fun its env => forL (asT C t) (evSs C b) its env) (okI2 SC i) fun its => for_sim (okT2 SC t) (okSs2 b) its
  | .whl c b => by
    have qb := okSs2 b
    show SSim (whl2 _ _ C2.fuel) (fun env => whlL _ _ C.fuel env) _
    rw [SC.fuel]
    exact whl_sim (SimP.bind (SimV.asFr (okE2 SC c)) fun x => (po_tru x).sim) qb C.fuel
  | .brk => SSim.go .brk .brk (fun _ => rfl) _
  | .cnt => SSim.go .cnt .cnt (fun _ => rfl) _
  | .pas => SSim.go .nx .nx (fun _ => rfl) _
  | .bad => SSim.stk
  | .rai c e => SSim.bindP (g := fun d env => fun h => .ex ⟨c, d⟩ env h) (SimV.asFr (okE2 SC e)) fun d => fun h e2 env F w => ⟨env, h, F, rfl, w, Step.refl fun n u => u, fun _ _ => rfl, rfl⟩
theorem okSs2 : (s : CSs) → SSim (ess2 C2 s) (evSs C s) (tgss s)
  | .nil => SSim.go .nx .nx (fun _ => rfl) _
  | .cons s r => seq_sim (okS2 s) (okSs2 r)
end
end
end SX
end
section
set_option Elab.async false
set_option linter.all false
set_option maxRecDepth 100000
set_option maxHeartbeats 4000000
/-! VS11: defs on both sides, the chain. -/
namespace SX
open PySem
theorem OwnL.fun {h : LH} : {vs : List Vl} → {ds : List D} → {T : List Nat} → OwnL h vs ds T → ∃ G : Nat → List Nat, (∀ (i : Nat) v, vs[i]? = some v → ∃ d, ds[i]? = some d ∧ Own h v d (G i)) ∧ (∀ i j, i ≠ j → ∀ n, n ∈ G i → n ∉ G j) ∧ (∀ i n, n ∈ G i → n ∈ T ∧ i < vs.length)
  | _, _, _, .nil => ⟨fun _ => [], fun i v e => by simp at e, fun _ _ _ _ hn => by simp at hn, fun _ _ hn => by simp at hn⟩
  | _, _, _, .cons (v := v) (d := d) (S := S) (T := T) (vs := vs) (ds := ds) o r q => by
    obtain ⟨G, g1, g2, g3⟩ := OwnL.fun r
    refine ⟨fun i => match i with | 0 => S | i + 1 => G i, fun i u e => ?_, fun i j hij n hn hj => ?_, fun i n hn => ?_⟩
    · cases i with
      | zero => simp at e; subst e; exact ⟨d, by simp, o⟩
      | succ i => simp at e ⊢; exact g1 i u e
    · cases i with
      | zero =>
        cases j with
        | zero => exact hij rfl
        | succ j => exact q n hn (g3 j n hj).1
      | succ i =>
        cases j with
        | zero => exact q n hj (g3 i n hn).1
        | succ j => exact g2 i j (fun z => hij (by rw [z])) n hn hj
    · cases i with
      | zero => exact ⟨List.mem_append_left _ hn, by simp⟩
      | succ i => exact ⟨List.mem_append_right _ (g3 i n hn).1, by have := (g3 i n hn).2; simp; omega⟩
theorem start_own {h : LH} {vs : List Vl} {ds : List D} {T : List Nat} (o : OwnL h vs ds T) (n : Nat) : ∃ G : Nat → List Nat, EOwn h (start2 n vs) (SX.start n ds) G [] ∧ (∀ k, UE G k → k ∈ T) ∧ ∀ (i : Nat) (d : D), ds[i]? = some d → (SX.start n ds)[i]? = some (some d) := by
  obtain ⟨G, g1, g2, g3⟩ := o.fun
  have hl := o.length
  have st : ∀ (i : Nat) (d : D), ds[i]? = some d → (SX.start n ds)[i]? = some (some d) := fun i d e => by
    have hi : i < ds.length := by
      rcases List.getElem?_eq_some_iff.mp e with ⟨z, _⟩; exact z
    unfold SX.start
    rw [List.getElem?_append_left (by simpa using hi), List.getElem?_map, e]
    rfl
  refine ⟨G, ⟨?_, fun i k hk => o.lt k (g3 i k hk).1, fun i v _ e => ?_, g2⟩, fun k ⟨i, hk⟩ => (g3 i k hk).1, st⟩
  · unfold start2 SX.start
    simp [hl]
  · unfold start2 at e
    by_cases hi : i < vs.length
    · rw [List.getElem?_append_left (by simpa using hi), List.getElem?_map] at e
      cases ev : vs[i]? with
      | none => rw [ev] at e; simp at e
      | some u =>
        rw [ev] at e
        simp at e
        subst e
        obtain ⟨d, e1, o1⟩ := g1 i u ev
        exact ⟨d, st i d e1, o1⟩
    · rw [List.getElem?_append_right (by simpa using hi)] at e
      rw [List.getElem?_replicate] at e
      split at e <;> simp at e
theorem outs_own {h' : LH} {e2 : VE} {env1 : Env} {F : Nat → List Nat} (w : EOwn h' e2 env1 F []) {Tg : List Nat} : ∀ (k : Nat) (vs : List Vl) (ds : List D), vs.length = ds.length → k + vs.length ≤ e2.length → rbOk Tg k vs = true → (∀ (j : Nat) (d : D), k + j ∉ Tg → ds[j]? = some d → env1[k + j]? = some (some d)) →
    ∃ T, OwnO h' vs (outs vs (e2.drop k)) ds T ∧ ∀ n ∈ T, ∃ j, k ≤ j ∧ n ∈ F j
  | k, [], [], _, _, _, _ => ⟨[], by unfold outs; exact .nil, by simp⟩
  | k, [], _ :: _, e, _, _, _ => by cases e
  | k, _ :: _, [], e, _, _, _ => by cases e
  | k, v :: vs, d :: ds, e, hk, rb, he => by
    unfold rbOk at rb
    rw [Bool.and_eq_true] at rb
    have hk' : k + (vs.length + 1) ≤ e2.length := hk
    obtain ⟨T, o, s⟩ := outs_own w (k + 1) vs ds (by simpa using e) (by omega) rb.2 fun j x hj ex => by
      have := he (j + 1) x (by rwa [show k + (j + 1) = k + 1 + j by omega]) (by simpa using ex)
      rwa [show k + (j + 1) = k + 1 + j by omega] at this
    have hd : e2.drop k = e2[k] :: e2.drop (k + 1) := by
      rw [List.drop_eq_getElem_cons (by omega)]
    rw [hd]
    have s' : ∀ n ∈ T, ∃ j, k ≤ j ∧ n ∈ F j := fun n hn => by
      obtain ⟨j, hj, z⟩ := s n hn
      exact ⟨j, by omega, z⟩
    show ∃ T, OwnO h' (v :: vs) (out1 v e2[k] :: outs vs (e2.drop (k + 1))) (d :: ds) T ∧ _
    cases hv : v.isFr with
    | true =>
      cases v <;> try (cases hv; done)
      exact ⟨T, .fr o, s'⟩
    | false =>
      have ho : out1 v e2[k] = e2[k] := by cases v <;> first | (cases hv; done) | rfl
      rw [ho]
      have hT : k ∉ Tg := by
        have := rb.1
        rw [hv, Bool.false_or, Bool.not_eq_true', List.contains_eq_mem] at this
        simpa using this
      cases ek : e2[k] with
      | none => exact ⟨T, .gone hv o, s'⟩
      | some u =>
        have e5 : e2[k]? = some (some u) := by rw [List.getElem?_eq_getElem (by omega), ek]
        obtain ⟨d', e6, ou⟩ := w.own k u (by simp) e5
        have e7 : env1[k]? = some (some d) := he 0 d hT (by simp)
        rw [e7] at e6
        cases e6
        refine ⟨F k ++ T, .some hv ou o fun n hn z => ?_, fun n hn => ?_⟩
        · obtain ⟨j, hj, y⟩ := s n z
          exact w.dis k j (by omega) n hn y
        · rcases List.mem_append.mp hn with z | z
          · exact ⟨k, Nat.le_refl _, z⟩
          · exact s' n z
theorem sem_sim {C2 : Cx2} {C : Ctx} (SC : SimC C2 C) (d : Def) : SimF (d.sem2 C2) (d.sem C) := fun h vs ds T o => by
  unfold Def.sem2 Def.sem
  have hl := o.length
  by_cases g : vs.length = d.np
  · have g' : ds.length = d.np := by rw [← hl]; exact g
    by_cases rb : rbOk (tgss d.body) 0 vs = true
    · rw [if_pos g, if_pos rb, if_pos g']
      obtain ⟨G, w, hG, hs⟩ := start_own o d.ns
      have p := okSs2 SC d.body h (start2 d.ns vs) (SX.start d.ns ds) G w
      have out : ∀ {e2 : VE} {env1 : Env} {h' : LH} {F : Nat → List Nat}, EOwn h' e2 env1 F [] → (∀ i, i ∉ tgss d.body → env1[i]? = (SX.start d.ns ds)[i]?) → env1.length = (SX.start d.ns ds).length → ∃ T', OwnO h' vs (outs vs e2) ds T' ∧ ∀ n ∈ T', UE F n := fun {e2 env1 h' F} w' ag hn => by
        have hlen : vs.length ≤ e2.length := by
          rw [w'.len, hn]
          unfold SX.start
          simp
          omega
        obtain ⟨T', o', s'⟩ := outs_own w' 0 vs ds hl (by omega) rb fun j x hj ex => by
          rw [Nat.zero_add] at hj ⊢
          rw [ag j hj]
          exact hs j x ex
        exact ⟨T', by simpa using o', fun n hn => by
          obtain ⟨j, _, z⟩ := s' n hn
          exact ⟨j, z⟩⟩
      show RelF h _ ds vs (fin2 vs (ess2 C2 d.body (start2 d.ns vs))) (endS (evSs C d.body (SX.start d.ns ds) h))
      generalize ess2 C2 d.body (start2 d.ns vs) = r2 at p
      cases r2 with
      | stuck => trivial
      | ex x e2 =>
        obtain ⟨env1, h', F, e, p1, p2, p3, p4⟩ := p
        rw [e]
        obtain ⟨T', o', s'⟩ := out p1 p3 p4
        exact ⟨h', T', rfl, o', p2.mono hG fun n u => s' n u⟩
      | ok f e2 =>
        obtain ⟨f', env1, h', S, F, e, p1, p2, p3, p4, p5, p6⟩ := p
        rw [e]
        obtain ⟨T', o', s'⟩ := out p2 p5 p6
        cases f <;> cases f' <;> first | (cases p1; done) | trivial | skip
        · cases p1
          exact ⟨.non, h', [], T', rfl, .fr _, o', by simp, p4.mono hG fun n u => .inr (s' n (u.resolve_left (by simp)))⟩
        · exact ⟨_, h', S, T', rfl, p1, o', fun n hn z => by
            obtain ⟨j, y⟩ := s' n z
            exact p3 n hn j y, p4.mono hG fun n u => u.imp id (s' n)⟩
    · rw [if_pos g, if_neg rb]; trivial
  · rw [if_neg g]; trivial
/-! ### the chain -/
def Ctx.base2 (C : Ctx) : Cx2 := ⟨C.flds, [], [], [], [], C.gds, C.fuel, C.cls, C.gvs⟩
def Cx2.addF (C : Cx2) (f n : Nat) (s : Sem2) : Cx2 := { C with fns := (f, n, s) :: C.fns }
def Cx2.addI (C : Cx2) (c n : Nat) (s : Sem2) : Cx2 := { C with inis := (c, n, s) :: C.inis }
def Cx2.addM (C : Cx2) (c m n : Nat) (s : Sem2) : Cx2 := { C with mts := (c, m, n, s) :: C.mts }
def Cx2.addP (C : Cx2) (c f : Nat) (s : Sem2) : Cx2 := { C with prs := (c, f, s) :: C.prs }
theorem SimC.base (C : Ctx) : SimC C.base2 C := ⟨rfl, (fun _ _ _ e => by cases e), (fun _ _ _ e => by cases e), (fun _ _ _ _ e => by cases e), (fun _ _ _ e => by cases e), fun _ => rfl, rfl, rfl, rfl, (fun _ _ e => by cases e)⟩
section
variable {C2 : Cx2} {C : Ctx} {s2 : Sem2} {s : Sem}
theorem SimC.addF (SC : SimC C2 C) (q : SimF s2 s) (f n : Nat) : SimC (C2.addF f n s2) (C.addF f n s) := by
  refine ⟨SC.flds, fun g m t e => ?_, SC.ini, SC.mt, SC.pr, SC.gd, SC.fuel, SC.cls, SC.gvs, SC.hasM⟩
  unfold Cx2.addF Cx2.fn at e
  unfold Ctx.addF Ctx.fn
  simp only [List.find?_cons] at e ⊢
  cases z : (f == g && n == m) with
  | true => rw [z] at e; cases e; exact ⟨s, rfl, q⟩
  | false => rw [z] at e; exact SC.fn g m t e
theorem SimC.addI (SC : SimC C2 C) (q : SimF s2 s) (f n : Nat) : SimC (C2.addI f n s2) (C.addI f n s) := by
  refine ⟨SC.flds, SC.fn, fun g m t e => ?_, SC.mt, SC.pr, SC.gd, SC.fuel, SC.cls, SC.gvs, SC.hasM⟩
  unfold Cx2.addI Cx2.ini at e
  unfold Ctx.addI Ctx.ini
  simp only [List.find?_cons] at e ⊢
  cases z : (f == g && n == m) with
  | true => rw [z] at e; cases e; exact ⟨s, rfl, q⟩
  | false => rw [z] at e; exact SC.ini g m t e
theorem SimC.addP (SC : SimC C2 C) (q : SimF s2 s) (f n : Nat) : SimC (C2.addP f n s2) (C.addP f n s) := by
  refine ⟨SC.flds, SC.fn, SC.ini, SC.mt, fun g m t e => ?_, SC.gd, SC.fuel, SC.cls, SC.gvs, SC.hasM⟩
  unfold Cx2.addP Cx2.pr at e
  unfold Ctx.addP Ctx.pr
  simp only [List.find?_cons] at e ⊢
  cases z : (f == g && n == m) with
  | true => rw [z] at e; cases e; exact ⟨s, rfl, q⟩
  | false => rw [z] at e; exact SC.pr g m t e
theorem SimC.addM (SC : SimC C2 C) (q : SimF s2 s) (c f n : Nat) : SimC (C2.addM c f n s2) (C.addM c f n s) := by
  refine ⟨SC.flds, SC.fn, SC.ini, fun d g m t e => ?_, SC.pr, SC.gd, SC.fuel, SC.cls, SC.gvs, fun d g e => ?_⟩
  · unfold Cx2.addM Cx2.mt at e
    unfold Ctx.addM Ctx.mt
    simp only [List.find?_cons] at e ⊢
    cases z : (c == d && (f == g && n == m)) with
    | true => rw [z] at e; cases e; exact ⟨s, rfl, q⟩
    | false => rw [z] at e; exact SC.mt d g m t e
  · unfold Cx2.addM Cx2.hasM at e
    unfold Ctx.addM Ctx.hasM
    rw [List.any_cons] at e ⊢
    rw [Bool.or_eq_true] at e ⊢
    exact e.imp id fun z => SC.hasM d g z
end
/-- from the run by values to the law's promise -/
theorem plain_of {s2 : Sem2} {s : Sem} (q : SimF s2 s) {l : List D} {os : List (Option Vl)} (e : s2 [.fr (.rol l)] = .ok (.fr (.bl true)) os) : ∃ h, s [.rol l] [] = .ok (.bl true) h := by
  have p := q [] [.fr (.rol l)] [.rol l] [] (.cons (S := []) (T := []) (.fr _) .nil (by simp))
  rw [e] at p
  obtain ⟨d, h', S, T, e1, o, _⟩ := p
  obtain ⟨rfl, _⟩ := o.frz
  exact ⟨h', e1⟩
end SX
end
section
set_option Elab.async false
set_option linter.all false
set_option maxRecDepth 100000
set_option maxHeartbeats 4000000
/-! VR1: reading the evaluator by values: equations. -/
namespace SX
open PySem
@[simp] theorem rb_ok {α β : Type} (a : α) (e : VE) (f : α → M2 β) : (R2.ok a e).bnd f = f a e := rfl
@[simp] theorem rb_ex {α β : Type} (x : Exn) (e : VE) (f : α → M2 β) : (R2.ex x e : R2 α).bnd f = .ex x e := rfl
@[simp] theorem rb_stk {α β : Type} (f : α → M2 β) : (R2.stuck : R2 α).bnd f = .stuck := rfl
@[simp] theorem bnd2_app {α β : Type} (m : M2 α) (f : α → M2 β) (e : VE) : bnd2 m f e = (m e).bnd f := rfl
@[simp] theorem ret2_app {α : Type} (a : α) (e : VE) : ret2 a e = .ok a e := rfl
@[simp] theorem stk2_app {α : Type} (e : VE) : (stk2 : M2 α) e = .stuck := rfl
@[simp] theorem thw2_app {α : Type} (x : Exn) (e : VE) : (thw2 x : M2 α) e = .ex x e := rfl
@[simp] theorem lift2_some {α : Type} (a : α) : lift2 (some a) = ret2 a := rfl
@[simp] theorem lift2_none {α : Type} : lift2 (none : Option α) = stk2 := rfl
@[simp] theorem guard2_app (b : Bool) (e : VE) : guard2 b e = if b = true then .ok () e else .stuck := by
  unfold guard2; split <;> rfl
@[simp] theorem noEx2_app {α : Type} (m : M2 α) (e : VE) : noEx2 m e = (m e).noEx := rfl
@[simp] theorem rn_ok {α : Type} (a : α) (e : VE) : (R2.ok a e).noEx = .ok a e := rfl
@[simp] theorem rn_ex {α : Type} (x : Exn) (e : VE) : (R2.ex x e : R2 α).noEx = .stuck := rfl
@[simp] theorem rn_stk {α : Type} : (R2.stuck : R2 α).noEx = .stuck := rfl
@[simp] theorem ite_app {α : Type} {c : Prop} [Decidable c] (a b : M2 α) (e : VE) : (if c then a else b) e = if c then a e else b e := by split <;> rfl
/-! outcomes of pure operations -/
@[simp] theorem po_ret {α : Type} (a : α) : pureO (ret a) = some a := rfl
@[simp] theorem po_stk {α : Type} : pureO (stk : EM α) = none := rfl
@[simp] theorem po_guard {α : Type} (b : Bool) (f : Unit → EM α) : pureO (bnd (guard' b) f) = if b = true then pureO (f ()) else none := by
  unfold guard'; split <;> rfl
@[simp] theorem po_ofO {α : Type} (o : Option α) : pureO (ofO o) = o := by cases o <;> rfl
@[simp] theorem po_bndO {α β : Type} (o : Option α) (f : α → EM β) : pureO (bnd (ofO o) f) = o.bind fun a => pureO (f a) := by cases o <;> rfl
@[simp] theorem po_bin_add (i j : Int) : pureO (binD .add (.int i) (.int j)) = some (.int (i + j)) := rfl
@[simp] theorem po_bin_sub (i j : Int) : pureO (binD .sub (.int i) (.int j)) = some (.int (i - j)) := rfl
@[simp] theorem po_bin_mul (i j : Int) : pureO (binD .mul (.int i) (.int j)) = if mulOk i j = true then some (.int (i * j)) else none := po_guard _ _
@[simp] theorem po_bin_fdiv (i j : Int) : pureO (binD .fdiv (.int i) (.int j)) = if divOk j = true then some (.int (i / j)) else none := po_guard _ _
@[simp] theorem po_bin_mod (i j : Int) : pureO (binD .mod (.int i) (.int j)) = if decide (0 < j) = true then some (.int (i % j)) else none := po_guard _ _
@[simp] theorem po_bin_pow (i j : Int) : pureO (binD .pow (.int i) (.int j)) = if powOk i j = true then some (.int (i ^ j.toNat)) else none := po_guard _ _
@[simp] theorem po_bin_str (a b : Str) : pureO (binD .add (.str a) (.str b)) = if fitB (a.length + b.length) = true then some (.str (a ++ b)) else none := po_guard _ _
@[simp] theorem po_bin_lst (a b : List D) : pureO (binD .add (.lst a) (.lst b)) = if fitB (a.length + b.length) = true then some (.lst (a ++ b)) else none := po_guard _ _
@[simp] theorem po_bin_tup (a b : List D) : pureO (binD .add (.tup a) (.tup b)) = if fitB (a.length + b.length) = true then some (.tup (a ++ b)) else none := po_guard _ _
@[simp] theorem po_bin_rep (a : List D) (k : Int) : pureO (binD .mul (.lst a) (.int k)) = if (decide (-(2 ^ 63) ≤ k) && decide (k < 2 ^ 63) && fitB (a.length * k.toNat)) = true then some (.lst (List.replicate k.toNat a).flatten) else none := po_guard _ _
@[simp] theorem po_tru_bl (b : Bool) : pureO (truD (.bl b)) = some b := rfl
@[simp] theorem po_tru_non : pureO (truD .non) = some false := rfl
@[simp] theorem po_tru_int (i : Int) : pureO (truD (.int i)) = some (i != 0) := rfl
@[simp] theorem po_tru_str (s : Str) : pureO (truD (.str s)) = if fitB s.length = true then some (s.length != 0) else none := po_guard _ _
@[simp] theorem po_tru_lst (l : List D) : pureO (truD (.lst l)) = some (!l.isEmpty) := rfl
@[simp] theorem po_tru_tup (l : List D) : pureO (truD (.tup l)) = some (!l.isEmpty) := rfl
@[simp] theorem po_its_lst (l : List D) : pureO (itsD (.lst l)) = some l := rfl
@[simp] theorem po_its_tup (l : List D) : pureO (itsD (.tup l)) = some l := rfl
@[simp] theorem po_its_rol (l : List D) : pureO (itsD (.rol l)) = some l := rfl
@[simp] theorem po_its_str (z : Str) : pureO (itsD (.str z)) = some (z.cps.toList.map fun c => .str ⟨#[c]⟩) := rfl
@[simp] theorem po_enu_lst (l : List D) : pureO (enuM (.lst l)) = some (enuD l) := rfl
@[simp] theorem po_rngM (n : Int) : pureO (rngM (.int n)) = if (decide (-(2 ^ 62) ≤ n) && decide (n < 16777216)) = true then some ((List.range n.toNat).map fun i => .int (i : Nat)) else none := po_guard _ _
@[simp] theorem po_rng2M (m n : Int) : pureO (rng2M (.int m) (.int n)) = if (decide (-(2 ^ 62) ≤ m) && decide (m < 2 ^ 62) && decide (-(2 ^ 62) ≤ n) && decide (n < 2 ^ 62) && decide (n - m < 16777216)) = true then some ((List.range (n - m).toNat).map fun i => .int (m + (i : Nat))) else none := po_guard _ _
@[simp] theorem po_rng3M (c m n : Int) : pureO (rng3M c (.int m) (.int n)) = if (decide (c = -1) && decide (-(2 ^ 62) ≤ m) && decide (m < 2 ^ 62) && decide (-(2 ^ 62) ≤ n) && decide (n < 2 ^ 62) && decide (m - n < 16777216)) = true then some ((List.range (m - n).toNat).map fun i => .int (m + (i : Nat) * c)) else none := po_guard _ _
@[simp] theorem po_fmt_str (s : Str) : pureO (fmtD (.str s)) = if fitB s.length = true then some s else none := po_guard _ _
@[simp] theorem po_fmt_int (i : Int) : pureO (fmtD (.int i)) = if strOk i = true then some ((toString i : String) : Str) else none := po_guard _ _
@[simp] theorem po_part_ (i : Int) : pureO (partD (.int i)) = some (some i) := rfl
@[simp] theorem po_zip_ (x y : D) : pureO (zipM x y) = (pureO (itsD x)).bind fun l => (pureO (itsD y)).bind fun k => some ((l.zip k).map fun p => .tup [p.1, p.2]) := by
  unfold zipM
  rcases po_its x with e | ⟨a, e⟩
  · unfold pureO SX.bnd; rw [e]; rfl
  · rw [e]
    rcases po_its y with e2 | ⟨b, e2⟩
    · have h1 : pureO (itsD y) = none := by unfold pureO; rw [e2]
      rw [h1]
      show pureO (bnd (itsD y) _) = none
      unfold pureO SX.bnd
      rw [e2]
    · rw [e2]; rfl
@[simp] theorem po_idx_lst (l : List D) (i : Int) : pureO (idxD (.lst l) (.int i)) = atD l i := po_ofO _
@[simp] theorem po_idx_tup (l : List D) (i : Int) : pureO (idxD (.tup l) (.int i)) = atD l i := po_ofO _
@[simp] theorem po_idx_rol (l : List D) (i : Int) : pureO (idxD (.rol l) (.int i)) = atD l i := po_ofO _
@[simp] theorem po_idx_str (z : Str) (i : Int) : pureO (idxD (.str z) (.int i)) = if fitB z.length = true then (L2.atI z.cps.toList i).map (fun c => .str ⟨#[c]⟩) else none := by
  show pureO (bnd (guard' _) _) = _
  rw [po_guard, po_ofO]
@[simp] theorem po_slc_lst (l : List D) (a b : Option Int) : pureO (slcD (.lst l) a b) = some (.lst (cutD l a b)) := rfl
@[simp] theorem po_slc_tup (l : List D) (a b : Option Int) : pureO (slcD (.tup l) a b) = some (.tup (cutD l a b)) := rfl
@[simp] theorem po_slc_str (z : Str) (a b : Option Int) : pureO (slcD (.str z) a b) = if fitB z.length = true then some (.str (L2.cutS z a b)) else none := po_guard _ _
@[simp] theorem po_kind_split (a : Str) : pureO (kindD .split (.str a)) = some () := rfl
@[simp] theorem po_kind_join (a : Str) : pureO (kindD .join (.str a)) = some () := rfl
@[simp] theorem po_kind_sw (a : Str) : pureO (kindD .startswith (.str a)) = some () := rfl
@[simp] theorem po_kind_ew (a : Str) : pureO (kindD .endswith (.str a)) = some () := rfl
@[simp] theorem po_kind_ix (l : List D) : pureO (kindD .index (.lst l)) = some () := rfl
@[simp] theorem po_split (a b : Str) : pureO (bmtD .split (.str a) [.str b]) = if (!(b.length == 0) && fitB (a.length + 2)) = true then some (.lst ((Txt.split a b).map .str)) else none := po_guard _ _
@[simp] theorem po_join_ (a : Str) (l : List D) : pureO (bmtD .join (.str a) [.lst l]) = (strsD l).bind fun ys => if fitB ((ys.map (·.length)).sum + ys.length * a.length) = true then some (.str (Txt.join a ys)) else none := by
  show pureO (joinO a (strsD l)) = _
  cases strsD l with
  | none => rfl
  | some ys => exact po_guard _ _
@[simp] theorem po_sw (a b : Str) : pureO (bmtD .startswith (.str a) [.str b]) = some (.bl (Txt.startswith a b)) := rfl
@[simp] theorem po_ew (a b : Str) : pureO (bmtD .endswith (.str a) [.str b]) = some (.bl (Txt.endswith a b)) := rfl
@[simp] theorem po_index (l : List D) (d : D) : pureO (bmtD .index (.lst l) [d]) = if ixOk l d = true then (ixP d l 0).map (fun j => .int (j : Nat)) else none := by
  show pureO (if ixOk l d then natO (ixP d l 0) else stk) = _
  by_cases h : ixOk l d = true
  · rw [if_pos h, if_pos h]; cases ixP d l 0 <;> rfl
  · rw [if_neg h, if_neg h]; rfl
@[simp] theorem po_b_len_str (s : Str) : pureO (bltD .len [.str s]) = if fitB s.length = true then some (.int s.length) else none := po_guard _ _
@[simp] theorem po_b_len_lst (l : List D) : pureO (bltD .len [.lst l]) = some (.int l.length) := rfl
@[simp] theorem po_b_len_tup (l : List D) : pureO (bltD .len [.tup l]) = some (.int l.length) := rfl
@[simp] theorem po_b_len_rol (l : List D) : pureO (bltD .len [.rol l]) = some (.int l.length) := rfl
@[simp] theorem po_b_abs (i : Int) : pureO (bltD .abs [.int i]) = some (.int (if i < 0 then -i else i)) := rfl
@[simp] theorem po_b_int (i : Int) : pureO (bltD .int [.int i]) = some (.int i) := rfl
@[simp] theorem po_b_intb (b : Bool) : pureO (bltD .int [.bl b]) = some (.int (if b then 1 else 0)) := rfl
@[simp] theorem po_b_ints (s : Str) : pureO (bltD .int [.str s]) = (PySem.intText? s).bind fun i => if decide (s.length ≤ 640) = true then some (.int i) else none := by
  show pureO (intO s.length (PySem.intText? s)) = _
  cases PySem.intText? s with
  | none => rfl
  | some i => exact po_guard _ _
@[simp] theorem po_b_str (i : Int) : pureO (bltD .str [.int i]) = if strOk i = true then some (.str ((toString i : String) : Str)) else none := po_guard _ _
@[simp] theorem po_b_list (l : List D) : pureO (bltD .list [.lst l]) = some (.lst l) := rfl
@[simp] theorem po_b_listt (l : List D) : pureO (bltD .list [.tup l]) = some (.lst l) := rfl
@[simp] theorem po_b_tuple (l : List D) : pureO (bltD .tuple [.lst l]) = some (.tup l) := rfl
@[simp] theorem po_b_tuplet (l : List D) : pureO (bltD .tuple [.tup l]) = some (.tup l) := rfl
@[simp] theorem po_b_all (l : List D) : pureO (bltD .all [.lst l]) = (blsD l).map fun bs => .bl (bs.all id) := by
  show pureO (allO (blsD l)) = _
  cases blsD l <;> rfl
@[simp] theorem po_b_any (l : List D) : pureO (bltD .any [.lst l]) = (blsD l).map fun bs => .bl (bs.any id) := by
  show pureO (anyO (blsD l)) = _
  cases blsD l <;> rfl
@[simp] theorem po_b_max (l : List D) (i : Int) (is : List Int) (h : intsD l = some (i :: is)) : pureO (bltD .max [.lst l]) = some (.int (maxL i is)) := by
  show pureO (maxO (intsD l)) = _
  rw [h]; rfl
@[simp] theorem po_b_min (l : List D) (i : Int) (is : List Int) (h : intsD l = some (i :: is)) : pureO (bltD .min [.lst l]) = some (.int (minL i is)) := by
  show pureO (minO (intsD l)) = _
  rw [h]; rfl
@[simp] theorem po_b_max2 (i j : Int) : pureO (bltD .max [.int i, .int j]) = some (.int (if j > i then j else i)) := rfl
@[simp] theorem po_b_min2 (i j : Int) : pureO (bltD .min [.int i, .int j]) = some (.int (if j < i then j else i)) := rfl
@[simp] theorem po_b_max3 (i j k : Int) : pureO (bltD .max [.int i, .int j, .int k]) = some (.int (if k > (if j > i then j else i) then k else (if j > i then j else i))) := rfl
@[simp] theorem po_b_bool (b : Bool) : pureO (bltD .bool [.bl b]) = some (.bl b) := rfl
@[simp] theorem po_b_booli (i : Int) : pureO (bltD .bool [.int i]) = some (.bl (i != 0)) := rfl
theorem po_reprO (o : Option PyData) : pureO (reprO o) = o.bind fun p => if (p.showable && SeqAt.shaped p && fitB p.shown.length) = true then some (.str p.shown) else none := by
  cases o with
  | none => rfl
  | some p => exact po_guard _ _
@[simp] theorem po_b_reprl (l : List D) : pureO (bltD .repr [.lst l]) = (D.toP (.lst l)).bind fun p => if (p.showable && SeqAt.shaped p && fitB p.shown.length) = true then some (.str p.shown) else none := po_reprO _
@[simp] theorem po_b_reprt (l : List D) : pureO (bltD .repr [.tup l]) = (D.toP (.tup l)).bind fun p => if (p.showable && SeqAt.shaped p && fitB p.shown.length) = true then some (.str p.shown) else none := po_reprO _
/-! names -/
def takeR (o : Option (Option Vl)) (i : Nat) (e : VE) : R2 Vl := match o with
  | some (some v) => match v with
    | .fr d => .ok (.fr d) e
    | v => .ok v (e.set i none)
  | _ => .stuck
@[simp] theorem takeV_app (i : Nat) (e : VE) : takeV i e = takeR e[i]? i e := rfl
@[simp] theorem takeR_fr (d : D) (i : Nat) (e : VE) : takeR (some (some (.fr d))) i e = .ok (.fr d) e := rfl
@[simp] theorem takeR_ls (d : List D) (i : Nat) (e : VE) : takeR (some (some (.ls d))) i e = .ok (.ls d) (e.set i none) := rfl
@[simp] theorem takeR_di (d : List (L2.Key × Vl)) (i : Nat) (e : VE) : takeR (some (some (.di d))) i e = .ok (.di d) (e.set i none) := rfl
@[simp] theorem takeR_ob (c : Nat) (d : List Vl) (i : Nat) (e : VE) : takeR (some (some (.ob c d))) i e = .ok (.ob c d) (e.set i none) := rfl
def frzR (o : Option (Option Vl)) (i : Nat) (e : VE) : R2 Vl := match o with
  | some (some v) => match v with
    | .fr d => if d.isRef then .stuck else .ok (.fr d) e
    | v => match frzd v with
      | some d => .ok (.fr d) (e.set i none)
      | none => .stuck
  | _ => .stuck
@[simp] theorem frzV_app (i : Nat) (e : VE) : frzV i e = frzR e[i]? i e := rfl
@[simp] theorem frzR_ls (d : List D) (i : Nat) (e : VE) : frzR (some (some (.ls d))) i e = .ok (.fr (.lst d)) (e.set i none) := rfl
@[simp] theorem frzR_fr (d : D) (i : Nat) (e : VE) : frzR (some (some (.fr d))) i e = if d.isRef then .stuck else .ok (.fr d) e := rfl
@[simp] theorem asFr_fr (d : D) : asFr (.fr d) = ret2 d := rfl
@[simp] theorem setV_app (i : Nat) (v : Vl) (e : VE) : setV i v e = .ok () (e.set i (some v)) := rfl
@[simp] theorem setsV_nil (e : VE) : setsV [] [] e = .ok () e := rfl
@[simp] theorem setsV_cons (i : Nat) (is : List Nat) (v : Vl) (vs : List Vl) (e : VE) : setsV (i :: is) (v :: vs) e = setsV is vs (e.set i (some v)) := rfl
def peekR (o : Option Vl) (e : VE) : R2 Vl := match o with
  | some v => .ok v e
  | none => .stuck
@[simp] theorem peek_app (a : Arg) (e : VE) : peek a e = peekR (getA1 e a) e := by
  unfold peek peekR; rfl
@[simp] theorem peekR_some (v : Vl) (e : VE) : peekR (some v) e = .ok v e := rfl
@[simp] theorem getA1_val (v : Vl) (e : VE) : getA1 e (.val v) = some v := rfl
@[simp] theorem getA1_bor (i : Nat) (e : VE) : getA1 e (.bor i) = e[i]?.join := by
  show (match e[i]? with
    | some o => o
    | none => none) = _
  cases e[i]? <;> rfl
def argR (o : Option (Option Vl)) (i : Nat) (e : VE) : R2 Arg := match o with
  | some (some _) => .ok (.bor i) e
  | _ => .stuck
@[simp] theorem argV_some (i : Nat) (m : M2 Vl) (e : VE) : argV (some i) m e = argR e[i]? i e := rfl
@[simp] theorem argR_some (v : Vl) (i : Nat) (e : VE) : argR (some (some v)) i e = .ok (.bor i) e := rfl
@[simp] theorem argV_none (m : M2 Vl) (e : VE) : argV none m e = (m e).bnd fun v => ret2 (.val v) := rfl
def updR (o : Option (Option Vl)) (i : Nat) (g : Vl → Option Vl) (e : VE) : R2 Unit := match o with
  | some (some v) => match g v with
    | some w => .ok () (e.set i (some w))
    | none => .stuck
  | _ => .stuck
@[simp] theorem updV_app (i : Nat) (g : Vl → Option Vl) (e : VE) : updV i g e = updR e[i]? i g e := rfl
def updQ (o : Option Vl) (i : Nat) (e : VE) : R2 Unit := match o with
  | some w => .ok () (e.set i (some w))
  | none => .stuck
@[simp] theorem updR_some (v : Vl) (i : Nat) (g : Vl → Option Vl) (e : VE) : updR (some (some v)) i g e = updQ (g v) i e := by
  unfold updR updQ; rfl
@[simp] theorem updQ_some (w : Vl) (i : Nat) (e : VE) : updQ (some w) i e = .ok () (e.set i (some w)) := rfl
@[simp] theorem mutV_app (l : List D) (d : D) : mutV .append (.ls l) [.fr d] = if decide (l.length < 16777216) then some (.ls (l ++ [d])) else none := rfl
@[simp] theorem mutV_ext (l l2 : List D) : mutV .extend (.ls l) [.fr (.lst l2)] = if fitB (l.length + l2.length) then some (.ls (l ++ l2)) else none := rfl
@[simp] theorem mutV_upd (kvs more : List (L2.Key × Vl)) : mutV .update (.di kvs) [.di more] = if fitB (kvs.length + more.length) && (frsD (more.map (·.2))).isSome then some (.di (mergeV kvs more)) else none := rfl
@[simp] theorem mutK_app (l : List D) : mutK .append (.ls l) = true := rfl
@[simp] theorem mutK_ext (l : List D) : mutK .extend (.ls l) = true := rfl
@[simp] theorem mutK_upd (l : List (L2.Key × Vl)) : mutK .update (.di l) = true := rfl
@[simp] theorem subV_ls (l : List D) (i : Int) (d : D) : subV (.int i) (.fr d) (.ls l) = (ixN l.length i).map fun j => .ls (l.set j d) := rfl
@[simp] theorem subV_di (kvs : List (L2.Key × Vl)) (y : D) (v : Vl) : subV y v (.di kvs) = match keyD y with
    | some k => if decide (kvs.length < 16777216) && v.isFr then some (.di (putV kvs k v)) else none
    | none => none := rfl
@[simp] theorem keyD_str (s : Str) : keyD (.str s) = some (.inr s) := rfl
@[simp] theorem keyD_int (s : Int) : keyD (.int s) = some (.inl s) := rfl
@[simp] theorem isFr_fr (d : D) : (Vl.fr d).isFr = true := rfl
/-! calls -/
def RF.backs (r : RF) (as : List Arg) (vs : List Vl) (e : VE) : R2 Vl := r.back as vs e
@[simp] theorem getA_nil (e : VE) : getA e [] = some [] := rfl
@[simp] theorem getA_cons (e : VE) (a : Arg) (l : List Arg) : getA e (a :: l) = (getA1 e a).bind fun v => (getA e l).map (v :: ·) := by
  show (match getA1 e a, getA e l with
    | some v, some vs => some (v :: vs)
    | _, _ => none) = _
  cases getA1 e a <;> cases getA e l <;> rfl
@[simp] theorem lent_nil (vs : List Vl) : lent [] vs = [] := by cases vs <;> rfl
@[simp] theorem lent_fr (a : Arg) (as : List Arg) (d : D) (vs : List Vl) : lent (a :: as) (.fr d :: vs) = lent as vs := rfl
@[simp] theorem lent_val (v : Vl) (as : List Arg) (u : Vl) (vs : List Vl) : lent (.val v :: as) (u :: vs) = lent as vs := by cases u <;> rfl
@[simp] theorem lent_ls (i : Nat) (as : List Arg) (d : List D) (vs : List Vl) : lent (.bor i :: as) (.ls d :: vs) = i :: lent as vs := rfl
@[simp] theorem lent_di (i : Nat) (as : List Arg) (d : List (L2.Key × Vl)) (vs : List Vl) : lent (.bor i :: as) (.di d :: vs) = i :: lent as vs := rfl
@[simp] theorem lent_ob (i c : Nat) (as : List Arg) (d : List Vl) (vs : List Vl) : lent (.bor i :: as) (.ob c d :: vs) = i :: lent as vs := rfl
@[simp] theorem noDup_nil : noDup [] = true := rfl
@[simp] theorem noDup_cons_ (a : Nat) (l : List Nat) : noDup (a :: l) = (!l.contains a && noDup l) := rfl
def callQ (o : Option (List Vl)) (f : Sem2) (as : List Arg) (e : VE) : R2 Vl := match o with
  | some vs => if noDup (lent as vs) = true then (f vs).back as vs e else .stuck
  | none => .stuck
@[simp] theorem callS_app (f : Sem2) (as : List Arg) (e : VE) : callS (some f) as e = callQ (getA e as) f as e := rfl
@[simp] theorem callQ_some (vs : List Vl) (f : Sem2) (as : List Arg) (e : VE) : callQ (some vs) f as e = if noDup (lent as vs) = true then (f vs).back as vs e else .stuck := rfl
def makeQ (o : Option (List Vl)) (f : Sem2) (c : Nat) (as : List Arg) (e : VE) : R2 Vl := match o with
  | some vs => if noDup (lent as vs) = true then (f (.ob c [] :: vs)).made as vs e else .stuck
  | none => .stuck
@[simp] theorem makeS_app (f : Sem2) (c : Nat) (as : List Arg) (e : VE) : makeS (some f) c as e = makeQ (getA e as) f c as e := rfl
@[simp] theorem makeQ_some (vs : List Vl) (f : Sem2) (c : Nat) (as : List Arg) (e : VE) : makeQ (some vs) f c as e = if noDup (lent as vs) = true then (f (.ob c [] :: vs)).made as vs e else .stuck := rfl
@[simp] theorem back_ok (v : Vl) (os : List (Option Vl)) (as : List Arg) (vs : List Vl) (e : VE) : (RF.ok v os).back as vs e = .ok v (putA as vs os e) := rfl
@[simp] theorem back_ex (x : Exn) (os : List (Option Vl)) (as : List Arg) (vs : List Vl) (e : VE) : (RF.ex x os).back as vs e = .ex x (putA as vs os e) := rfl
@[simp] theorem made_ok (o : Vl) (os : List (Option Vl)) (as : List Arg) (vs : List Vl) (e : VE) : (RF.ok (.fr .non) (some o :: os)).made as vs e = .ok o (putA as vs os e) := rfl
@[simp] theorem made_ex (x : Exn) (o : Option Vl) (os : List (Option Vl)) (as : List Arg) (vs : List Vl) (e : VE) : (RF.ex x (o :: os)).made as vs e = .ex x (putA as vs os e) := rfl
@[simp] theorem putA_nil (vs : List Vl) (os : List (Option Vl)) (e : VE) : putA [] vs os e = e := by cases vs <;> rfl
@[simp] theorem putA_fr (a : Arg) (as : List Arg) (d : D) (vs : List Vl) (o : Option Vl) (os : List (Option Vl)) (e : VE) : putA (a :: as) (.fr d :: vs) (o :: os) e = putA as vs os e := rfl
@[simp] theorem putA_val (v : Vl) (as : List Arg) (u : Vl) (vs : List Vl) (o : Option Vl) (os : List (Option Vl)) (e : VE) : putA (.val v :: as) (u :: vs) (o :: os) e = putA as vs os e := by cases u <;> rfl
@[simp] theorem putA_ls (i : Nat) (as : List Arg) (d : List D) (vs : List Vl) (o : Option Vl) (os : List (Option Vl)) (e : VE) : putA (.bor i :: as) (.ls d :: vs) (o :: os) e = putA as vs os (e.set i o) := rfl
@[simp] theorem putA_di (i : Nat) (as : List Arg) (d : List (L2.Key × Vl)) (vs : List Vl) (o : Option Vl) (os : List (Option Vl)) (e : VE) : putA (.bor i :: as) (.di d :: vs) (o :: os) e = putA as vs os (e.set i o) := rfl
@[simp] theorem putA_ob (i c : Nat) (as : List Arg) (d : List Vl) (vs : List Vl) (o : Option Vl) (os : List (Option Vl)) (e : VE) : putA (.bor i :: as) (.ob c d :: vs) (o :: os) e = putA as vs os (e.set i o) := rfl
@[simp] theorem frzM_ob (c : Nat) (fs : List Vl) : frzM (.ob c fs) = match (frsD fs).map (fun ds => D.obj c ds) with
    | some d => ret2 (.fr d)
    | none => stk2 := rfl
@[simp] theorem frsD_nil : frsD [] = some [] := rfl
@[simp] theorem frsD_cons (d : D) (l : List Vl) : frsD (.fr d :: l) = (frsD l).map (d :: ·) := rfl
end SX
end
section
set_option Elab.async false
set_option linter.all false
set_option maxRecDepth 100000
set_option maxHeartbeats 4000000
/-! VR2: equations of expressions and statements. -/
namespace SX
open PySem
section
variable (C : Cx2) (e : VE)
@[simp] theorem x_con (d : D) : ev C (.con d) e = .ok (.fr d) e := rfl
@[simp] theorem x_var (i : Nat) : ev C (.var i) e = takeR e[i]? i e := rfl
@[simp] theorem x_frz (i : Nat) : ev C (.frz i) e = frzR e[i]? i e := rfl
@[simp] theorem x_glo (x : Nat) : ev C (.glo x) e = (lift2 (C.gvs.lookup x) e).bnd fun d => ret2 (.fr d) := rfl
def negR : D → M2 Vl
  | .int i => ret2 (.fr (.int (-i)))
  | _ => stk2
@[simp] theorem negR_int (i : Int) : negR (.int i) = ret2 (.fr (.int (-i))) := rfl
@[simp] theorem x_neg (a : CE) : ev C (.neg a) e = ((ev C a e).bnd asFr).bnd negR := by
  show bnd2 _ _ e = _
  first | rfl | (unfold bnd2; congr 1; funext x; cases x <;> rfl)
@[simp] theorem x_bin (o : BOp) (a b : CE) : ev C (.bin o a b) e = ((ev C a e).bnd asFr).bnd fun x => bnd2 (bnd2 (ev C b) asFr) fun y => addX2 C o x y := rfl
@[simp] theorem x_cmp (o : COp) (a b : CE) : ev C (.cmp o a b) e = ((ev C a e).bnd asFr).bnd fun x => bnd2 (bnd2 (ev C b) asFr) fun y => bnd2 (cmpX2 C o x y) fun k => ret2 (.fr (.bl k)) := rfl
@[simp] theorem x_chn (o p : COp) (a b c : CE) : ev C (.chn o p a b c) e = ((ev C a e).bnd asFr).bnd fun x => bnd2 (bnd2 (ev C b) asFr) fun y => bnd2 (lift2 (cmpD o x y)) fun k => if k = true then bnd2 (bnd2 (ev C c) asFr) fun z => bnd2 (lift2 (cmpD p y z)) fun k2 => ret2 (.fr (.bl k2)) else ret2 (.fr (.bl false)) := rfl
@[simp] theorem x_and (a b : CE) : ev C (.and a b) e = ((ev C a e).bnd asFr).bnd fun x => bnd2 (lift2 (pureO (truD x))) fun k => if k = true then ev C b else ret2 (.fr x) := rfl
@[simp] theorem x_or (a b : CE) : ev C (.or a b) e = ((ev C a e).bnd asFr).bnd fun x => bnd2 (lift2 (pureO (truD x))) fun k => if k = true then ret2 (.fr x) else ev C b := rfl
@[simp] theorem x_not (a : CE) : ev C (.not a) e = ((ev C a e).bnd asFr).bnd fun x => bnd2 (lift2 (pureO (truD x))) fun k => ret2 (.fr (.bl (!k))) := rfl
@[simp] theorem x_ite (c a b : CE) : ev C (.ite c a b) e = ((ev C c e).bnd asFr).bnd fun x => bnd2 (lift2 (pureO (truD x))) fun k => if k = true then ev C a else ev C b := rfl
@[simp] theorem x_tup (es : CL) : ev C (.tup es) e = (evD C es e).bnd fun vs => bnd2 (guard2 (fitB vs.length)) fun _ => ret2 (.fr (.tup vs)) := rfl
@[simp] theorem x_lst (es : CL) : ev C (.lst es) e = (evD C es e).bnd fun vs => bnd2 (guard2 (fitB vs.length)) fun _ => ret2 (.fr (.lst vs)) := rfl
@[simp] theorem x_lsc (es : CL) : ev C (.lsc es) e = (evD C es e).bnd fun vs => bnd2 (guard2 (fitB vs.length)) fun _ => ret2 (.ls vs) := rfl
@[simp] theorem x_dcc (ks : List L2.Key) (es : CL) : ev C (.dcc ks es) e = (guard2 (ks.length == es.len && decide (ks.length ≤ 15) && !ks.isEmpty && decide ks.Nodup && noOne es) e).bnd fun _ => bnd2 (evW C es) fun vs => ret2 (.di (ks.zip vs)) := rfl
@[simp] theorem x_gin (x : Nat) (a : CE) (neg : Bool) : ev C (.gin x a neg) e = ((ev C a e).bnd asFr).bnd (ginX2 C x neg) := rfl
@[simp] theorem x_gix (x : Nat) (a : CE) : ev C (.gix x a) e = ((ev C a e).bnd asFr).bnd (gixX2 C x) := rfl
@[simp] theorem x_idx (a i : CE) : ev C (.idx a i) e = (argV (isVar a) (ev C a) e).bnd fun g => bnd2 (bnd2 (ev C i) asFr) fun y => bnd2 (peek g) (idxV C y) := rfl
@[simp] theorem x_slc (a : CE) (lo hi : CO) : ev C (.slc a lo hi) e = (argV (isVar a) (ev C a) e).bnd fun g => bnd2 (evO2 C lo) fun l => bnd2 (evO2 C hi) fun u => bnd2 (peek g) (slcV l u) := rfl
def revR : D → M2 Vl
  | .lst l => ret2 (.fr (.lst l.reverse))
  | _ => stk2
@[simp] theorem revR_lst (i : List D) : revR (.lst i) = ret2 (.fr (.lst i.reverse)) := rfl
@[simp] theorem x_rev (a : CE) : ev C (.rev a) e = ((ev C a e).bnd asFr).bnd revR := by
  show bnd2 _ _ e = _
  first | rfl | (unfold bnd2; congr 1; funext x; cases x <;> rfl)
@[simp] theorem x_att (a : CE) (f : Nat) : ev C (.att a f) e = (argV (isVar a) (ev C a) e).bnd fun g => bnd2 (peek g) (attV C f g) := rfl
@[simp] theorem x_cal (f : Nat) (es : CL) : ev C (.cal f es) e = (evA C es e).bnd fun as => callS (C.fn f as.length) as := rfl
@[simp] theorem x_mak (c : Nat) (es : CL) : ev C (.mak c es) e = (evA C es e).bnd fun as => bnd2 (makeS (C.ini c as.length) c as) frzM := rfl
@[simp] theorem x_mkc (c : Nat) (es : CL) : ev C (.mkc c es) e = (evA C es e).bnd fun as => makeS (C.ini c as.length) c as := rfl
@[simp] theorem x_clm (f c : Nat) (es : CL) : ev C (.clm f c es) e = (evA C es e).bnd fun as => callS (C.fn f (as.length + 1)) (.val (.fr (.cls c)) :: as) := rfl
def mkvR (C : Cx2) (c : Nat) (es : CL) : D → M2 Vl
  | .cls c' => if c' = c then bnd2 (evA C es) fun as => bnd2 (makeS (C.ini c as.length) c as) frzM else stk2
  | _ => stk2
@[simp] theorem mkvR_cls (c c' : Nat) (es : CL) : mkvR C c es (.cls c') = if c' = c then bnd2 (evA C es) fun as => bnd2 (makeS (C.ini c as.length) c as) frzM else stk2 := rfl
@[simp] theorem x_mkv (i c : Nat) (es : CL) : ev C (.mkv i c es) e = ((takeR e[i]? i e).bnd asFr).bnd (mkvR C c es) := by
  show bnd2 _ _ e = _
  first | rfl | (unfold bnd2; congr 1; funext x; cases x <;> rfl)
@[simp] theorem x_mth (o : CE) (m : Nat) (es : CL) : ev C (.mth o m es) e = (argV (isVar o) (ev C o) e).bnd fun g => bnd2 (bnd2 (peek g) clsV) fun c => bnd2 (guard2 (C.hasM c m)) fun _ => bnd2 (evA C es) fun as => callS (C.mt c m as.length) (g :: as) := rfl
@[simp] theorem x_len (a : CE) : ev C (.blt .len (.one a .nil)) e = (argV (isVar a) (ev C a) e).bnd fun g => bnd2 (peek g) (lenV C) := rfl
theorem x_blt (b : Blt) (h : b ≠ .len) (es : CL) : ev C (.blt b es) e = (evD C es e).bnd fun vs => lenX2 C b vs := by
  cases b <;> first | (exact absurd rfl h) | rfl
@[simp] theorem x_abs (es : CL) : ev C (.blt .abs es) e = (evD C es e).bnd fun vs => lenX2 C .abs vs := rfl
@[simp] theorem x_max (es : CL) : ev C (.blt .max es) e = (evD C es e).bnd fun vs => lenX2 C .max vs := rfl
@[simp] theorem x_min (es : CL) : ev C (.blt .min es) e = (evD C es e).bnd fun vs => lenX2 C .min vs := rfl
@[simp] theorem x_int (es : CL) : ev C (.blt .int es) e = (evD C es e).bnd fun vs => lenX2 C .int vs := rfl
@[simp] theorem x_str (es : CL) : ev C (.blt .str es) e = (evD C es e).bnd fun vs => lenX2 C .str vs := rfl
@[simp] theorem x_repr (es : CL) : ev C (.blt .repr es) e = (evD C es e).bnd fun vs => lenX2 C .repr vs := rfl
@[simp] theorem x_list (es : CL) : ev C (.blt .list es) e = (evD C es e).bnd fun vs => lenX2 C .list vs := rfl
@[simp] theorem x_tuple (es : CL) : ev C (.blt .tuple es) e = (evD C es e).bnd fun vs => lenX2 C .tuple vs := rfl
@[simp] theorem x_all (es : CL) : ev C (.blt .all es) e = (evD C es e).bnd fun vs => lenX2 C .all vs := rfl
@[simp] theorem x_any (es : CL) : ev C (.blt .any es) e = (evD C es e).bnd fun vs => lenX2 C .any vs := rfl
@[simp] theorem x_bool (es : CL) : ev C (.blt .bool es) e = (evD C es e).bnd fun vs => lenX2 C .bool vs := rfl
def mutR (C : Cx2) (m : BMt) (es : CL) (e : VE) (i : Nat) : R2 Vl := (peekR (e[i]?.join) e).bnd fun v => bnd2 (guard2 (mutK m v)) fun _ => bnd2 (evW C es) fun ws => bnd2 (updV i fun v => mutV m v ws) fun _ => ret2 (.fr .non)
@[simp] theorem mutR_app (m : BMt) (es : CL) (i : Nat) : mutR C m es e i = (peekR (e[i]?.join) e).bnd fun v => bnd2 (guard2 (mutK m v)) fun _ => bnd2 (evW C es) fun ws => bnd2 (updV i fun v => mutV m v ws) fun _ => ret2 (.fr .non) := rfl
theorem mut_eq (m : BMt) (hm : mutM m = true) (i : Nat) (es : CL) : ev C (.bmt m (.var i) es) e = mutR C m es e i := by
  show (if mutM m = true then _ else _ : M2 Vl) e = _
  rw [if_pos hm]
  show bnd2 (peek (.bor i)) _ e = _
  rw [bnd2_app, peek_app, getA1_bor]
  rfl
@[simp] theorem x_append (i : Nat) (es : CL) : ev C (.bmt .append (.var i) es) e = mutR C .append es e i := mut_eq C e _ rfl i es
@[simp] theorem x_extend (i : Nat) (es : CL) : ev C (.bmt .extend (.var i) es) e = mutR C .extend es e i := mut_eq C e _ rfl i es
@[simp] theorem x_update (i : Nat) (es : CL) : ev C (.bmt .update (.var i) es) e = mutR C .update es e i := mut_eq C e _ rfl i es
def bmtR (C : Cx2) (m : BMt) (o : CE) (es : CL) (e : VE) : R2 Vl := ((ev C o e).bnd asFr).bnd fun x => bnd2 (lift2 (pureO (kindD m x))) fun _ => bnd2 (evD C es) fun vs => bnd2 (lift2 (pureO (bmtD m x vs))) fun d => ret2 (.fr d)
theorem bmt_eq (m : BMt) (hm : mutM m = false) (o : CE) (es : CL) : ev C (.bmt m o es) e = bmtR C m o es e := by
  show (if mutM m = true then _ else _ : M2 Vl) e = _
  rw [if_neg (by rw [hm]; simp)]
  rfl
@[simp] theorem bmtR_app (m : BMt) (o : CE) (es : CL) : bmtR C m o es e = ((ev C o e).bnd asFr).bnd fun x => bnd2 (lift2 (pureO (kindD m x))) fun _ => bnd2 (evD C es) fun vs => bnd2 (lift2 (pureO (bmtD m x vs))) fun d => ret2 (.fr d) := rfl
@[simp] theorem x_split (o : CE) (es : CL) : ev C (.bmt .split o es) e = bmtR C .split o es e := bmt_eq C e _ rfl o es
@[simp] theorem x_join (o : CE) (es : CL) : ev C (.bmt .join o es) e = bmtR C .join o es e := bmt_eq C e _ rfl o es
@[simp] theorem x_sw (o : CE) (es : CL) : ev C (.bmt .startswith o es) e = bmtR C .startswith o es e := bmt_eq C e _ rfl o es
@[simp] theorem x_ew (o : CE) (es : CL) : ev C (.bmt .endswith o es) e = bmtR C .endswith o es e := bmt_eq C e _ rfl o es
@[simp] theorem x_index (o : CE) (es : CL) : ev C (.bmt .index o es) e = bmtR C .index o es e := bmt_eq C e _ rfl o es
@[simp] theorem x_isi (a : CE) (ts : List TyN) : ev C (.isi a ts) e = ((ev C a e).bnd asFr).bnd (isiX2 C ts) := rfl
theorem x_com (own : List Nat) (t : CT) (i : CI) (c : CO) (a : CE) (h : ((tgsT t).all fun x => own.contains x) = true) : ev C (.com own t i c a) e = comM2 own (evI2 C i) (as2 C t) (evT2 C c) (bnd2 (ev C a) asFr) e := by
  show (if _ then _ else _ : M2 Vl) e = _
  rw [if_pos h]
@[simp] theorem x_fst (es : CL) : ev C (.fst es) e = (evF2 C es Str.empty e).bnd fun s => ret2 (.fr (.str s)) := rfl
@[simp] theorem x_hol : ev C .hol e = .stuck := rfl
@[simp] theorem x_dnw : ev C .dnw e = .ok (.di []) e := rfl
@[simp] theorem d_nil : evD C .nil e = .ok [] e := rfl
@[simp] theorem d_one (a : CE) (r : CL) : evD C (.one a r) e = ((ev C a e).bnd asFr).bnd fun x => bnd2 (evD C r) fun xs => ret2 (x :: xs) := rfl
def staR (C : Cx2) (r : CL) : D → M2 (List D)
  | .lst l => bnd2 (evD C r) fun xs => ret2 (l ++ xs)
  | .tup l => bnd2 (evD C r) fun xs => ret2 (l ++ xs)
  | _ => stk2
@[simp] theorem staR_lst (r : CL) (l : List D) : staR C r (.lst l) = bnd2 (evD C r) fun xs => ret2 (l ++ xs) := rfl
@[simp] theorem staR_tup (r : CL) (l : List D) : staR C r (.tup l) = bnd2 (evD C r) fun xs => ret2 (l ++ xs) := rfl
@[simp] theorem d_sta (a : CE) (r : CL) : evD C (.sta a r) e = ((ev C a e).bnd asFr).bnd (staR C r) := by
  show bnd2 _ _ e = _
  first | rfl | (unfold bnd2; congr 1; funext x; cases x <;> rfl)
@[simp] theorem w_nil : evW C .nil e = .ok [] e := rfl
@[simp] theorem w_one (a : CE) (r : CL) : evW C (.one a r) e = (ev C a e).bnd fun x => bnd2 (evW C r) fun xs => ret2 (x :: xs) := rfl
@[simp] theorem a_nil : evA C .nil e = .ok [] e := rfl
@[simp] theorem a_one (a : CE) (r : CL) : evA C (.one a r) e = (argV (isVar a) (ev C a) e).bnd fun x => bnd2 (evA C r) fun xs => ret2 (x :: xs) := rfl
def stbR (C : Cx2) (r : CL) : D → M2 (List Arg)
  | .lst l => bnd2 (evA C r) fun xs => ret2 ((l.map fun d => .val (.fr d)) ++ xs)
  | .tup l => bnd2 (evA C r) fun xs => ret2 ((l.map fun d => .val (.fr d)) ++ xs)
  | _ => stk2
@[simp] theorem stbR_lst (r : CL) (l : List D) : stbR C r (.lst l) = bnd2 (evA C r) fun xs => ret2 ((l.map fun d => .val (.fr d)) ++ xs) := rfl
@[simp] theorem stbR_tup (r : CL) (l : List D) : stbR C r (.tup l) = bnd2 (evA C r) fun xs => ret2 ((l.map fun d => .val (.fr d)) ++ xs) := rfl
@[simp] theorem a_sta (a : CE) (r : CL) : evA C (.sta a r) e = ((ev C a e).bnd asFr).bnd (stbR C r) := by
  show bnd2 _ _ e = _
  first | rfl | (unfold bnd2; congr 1; funext x; cases x <;> rfl)
@[simp] theorem o2_no : evO2 C .no e = .ok none e := rfl
@[simp] theorem o2_so (a : CE) : evO2 C (.so a) e = ((ev C a e).bnd asFr).bnd fun x => lift2 (pureO (partD x)) := rfl
@[simp] theorem t2_no : evT2 C .no e = .ok true e := rfl
@[simp] theorem t2_so (a : CE) : evT2 C (.so a) e = ((ev C a e).bnd asFr).bnd fun x => lift2 (pureO (truD x)) := rfl
@[simp] theorem i_seq (a : CE) : evI2 C (.seq a) e = ((ev C a e).bnd asFr).bnd fun x => lift2 (pureO (itsD x)) := rfl
@[simp] theorem i_rng (a : CE) : evI2 C (.rng a) e = ((ev C a e).bnd asFr).bnd fun x => lift2 (pureO (rngM x)) := rfl
@[simp] theorem i_rng2 (a b : CE) : evI2 C (.rng2 a b) e = ((ev C a e).bnd asFr).bnd fun x => bnd2 (bnd2 (ev C b) asFr) fun y => lift2 (pureO (rng2M x y)) := rfl
@[simp] theorem i_rng3 (a b : CE) (c : Int) : evI2 C (.rng3 a b c) e = ((ev C a e).bnd asFr).bnd fun x => bnd2 (bnd2 (ev C b) asFr) fun y => lift2 (pureO (rng3M c x y)) := rfl
@[simp] theorem i_enu (a : CE) : evI2 C (.enu a) e = ((ev C a e).bnd asFr).bnd fun x => lift2 (pureO (enuM x)) := rfl
@[simp] theorem i_zip (a b : CE) : evI2 C (.zip a b) e = ((ev C a e).bnd asFr).bnd fun x => bnd2 (bnd2 (ev C b) asFr) fun y => lift2 (pureO (zipM x y)) := rfl
@[simp] theorem s_nam (i : Nat) (v : Vl) : as2 C (.nam i) v e = .ok () (e.set i (some v)) := rfl
@[simp] theorem s_tup (ts : CTL) (l : List D) : as2 C (.tup ts) (.fr (.tup l)) e = if l.length = ts.len then as2s C ts l e else .stuck := by
  show (if l.length = ts.len then as2s C ts l else stk2) e = _
  split <;> rfl
@[simp] theorem s_sub (j : Nat) (i : CE) (v : Vl) : as2 C (.sub (.var j) i) v e = (peekR (e[j]?.join) e).bnd fun _ => bnd2 (bnd2 (ev C i) asFr) fun y => updV j (subV y v) := by
  show bnd2 (peek (.bor j)) _ e = _
  rw [bnd2_app, peek_app, getA1_bor]
@[simp] theorem s_hdt (i j : Nat) (x : D) (l : List D) : as2 C (.hdt i j) (.fr (.lst (x :: l))) e = (guard2 (decide (l.length < 16384)) e).bnd fun _ => bnd2 (setV i (.fr x)) fun _ => setV j (.fr (.lst l)) := rfl
@[simp] theorem s_att (j f : Nat) (v : Vl) : as2 C (.att (.var j) f) v e = updR e[j]? j (fldV C f v) e := rfl
@[simp] theorem ss_nil : as2s C .nil [] e = .ok () e := rfl
@[simp] theorem ss_cons (t : CT) (r : CTL) (d : D) (l : List D) : as2s C (.cons t r) (d :: l) e = (as2 C t (.fr d) e).bnd fun _ => as2s C r l := rfl
@[simp] theorem f_nil (acc : Str) : evF2 C .nil acc e = .ok acc e := rfl
@[simp] theorem f_one (a : CE) (r : CL) (acc : Str) : evF2 C (.one a r) acc e = ((ev C a e).bnd asFr).bnd fun x => bnd2 (lift2 (pureO (fmtD x))) fun s => bnd2 (guard2 (fitB (acc.length + s.length))) fun _ => evF2 C r (acc ++ s) := rfl
/-! what stands behind -/
@[simp] theorem addX2_int (o : BOp) (i : Int) (y : D) : addX2 C o (.int i) y e = (lift2 (pureO (binD o (.int i) y)) e).bnd fun d => ret2 (.fr d) := by cases o <;> rfl
@[simp] theorem addX2_str (o : BOp) (i : Str) (y : D) : addX2 C o (.str i) y e = (lift2 (pureO (binD o (.str i) y)) e).bnd fun d => ret2 (.fr d) := by cases o <;> rfl
@[simp] theorem addX2_lst (o : BOp) (i : List D) (y : D) : addX2 C o (.lst i) y e = (lift2 (pureO (binD o (.lst i) y)) e).bnd fun d => ret2 (.fr d) := by cases o <;> rfl
@[simp] theorem addX2_tup (o : BOp) (i : List D) (y : D) : addX2 C o (.tup i) y e = (lift2 (pureO (binD o (.tup i) y)) e).bnd fun d => ret2 (.fr d) := by cases o <;> rfl
@[simp] theorem addX2_obj (c : Nat) (fs : List D) (y : D) : addX2 C .add (.obj c fs) y e = (guard2 (y.isObj c) e).bnd fun _ => callS (C.mt c aAdd 1) [.val (.fr (.obj c fs)), .val (.fr y)] := rfl
@[simp] theorem cmpX2_eqo (c : Nat) (fs : List D) (b : D) : cmpX2 C .eq (.obj c fs) b e = (guard2 (b.isObj c) e).bnd fun _ => bnd2 (noEx2 (callS (C.mt c aEq 1) [.val (.fr (.obj c fs)), .val (.fr b)])) asBl2 := rfl
@[simp] theorem cmpX2_neo (c : Nat) (fs : List D) (b : D) : cmpX2 C .ne (.obj c fs) b e = ((guard2 (b.isObj c) e).bnd fun _ => bnd2 (noEx2 (callS (C.mt c aEq 1) [.val (.fr (.obj c fs)), .val (.fr b)])) asBl2).bnd fun k => ret2 (!k) := rfl
@[simp] theorem cmpX2_int (o : COp) (i : Int) (y : D) : cmpX2 C o (.int i) y e = lift2 (cmpD o (.int i) y) e := by cases o <;> rfl
@[simp] theorem cmpX2_str (o : COp) (i : Str) (y : D) : cmpX2 C o (.str i) y e = lift2 (cmpD o (.str i) y) e := by cases o <;> rfl
@[simp] theorem cmpX2_lst (o : COp) (i : List D) (y : D) : cmpX2 C o (.lst i) y e = lift2 (cmpD o (.lst i) y) e := by cases o <;> rfl
@[simp] theorem cmpX2_tup (o : COp) (i : List D) (y : D) : cmpX2 C o (.tup i) y e = lift2 (cmpD o (.tup i) y) e := by cases o <;> rfl
@[simp] theorem cmpX2_bl (o : COp) (i : Bool) (y : D) : cmpX2 C o (.bl i) y e = lift2 (cmpD o (.bl i) y) e := by cases o <;> rfl
@[simp] theorem cmpX2_non (o : COp) (y : D) : cmpX2 C o .non y e = lift2 (cmpD o .non y) e := by cases o <;> rfl
@[simp] theorem cmpX2_is (x y : D) : cmpX2 C .isN x y e = lift2 (cmpD .isN x y) e := by cases x <;> rfl
@[simp] theorem cmpX2_nis (x y : D) : cmpX2 C .notN x y e = lift2 (cmpD .notN x y) e := by cases x <;> rfl
@[simp] theorem cmpD_is (x : D) : cmpD .isN x .non = some x.isNon := by cases x <;> rfl
@[simp] theorem cmpD_nis (x : D) : cmpD .notN x .non = some (!x.isNon) := by cases x <;> rfl
@[simp] theorem isNon_non : D.isNon .non = true := rfl
@[simp] theorem isNon_int (i : Int) : D.isNon (.int i) = false := rfl
@[simp] theorem isNon_str (i : Str) : D.isNon (.str i) = false := rfl
@[simp] theorem isNon_tup (i : List D) : D.isNon (.tup i) = false := rfl
@[simp] theorem isNon_lst (i : List D) : D.isNon (.lst i) = false := rfl
@[simp] theorem isNon_obj (c : Nat) (i : List D) : D.isNon (.obj c i) = false := rfl
@[simp] theorem isNon_bl (i : Bool) : D.isNon (.bl i) = false := rfl
@[simp] theorem cmpD_eqi (i j : Int) : cmpD .eq (.int i) (.int j) = some (decide (i = j)) := by
  show eqP (.int i) (.int j) = _
  rfl
@[simp] theorem cmpD_nei (i j : Int) : cmpD .ne (.int i) (.int j) = some (!decide (i = j)) := by
  show negO true (eqP (.int i) (.int j)) = _
  rfl
@[simp] theorem cmpD_lt (i j : Int) : cmpD .lt (.int i) (.int j) = some (decide (i < j)) := rfl
@[simp] theorem cmpD_le (i j : Int) : cmpD .le (.int i) (.int j) = some (decide (i ≤ j)) := rfl
@[simp] theorem cmpD_gt (i j : Int) : cmpD .gt (.int i) (.int j) = some (decide (j < i)) := rfl
@[simp] theorem cmpD_ge (i j : Int) : cmpD .ge (.int i) (.int j) = some (decide (j ≤ i)) := rfl
theorem cmpD_eqs (a b : D) : cmpD .eq a b = eqP a b := by cases a <;> rfl
theorem cmpD_nes (a b : D) : cmpD .ne a b = negO true (eqP a b) := by cases a <;> rfl
@[simp] theorem negO_some (n b : Bool) : negO n (some b) = some (if n then !b else b) := rfl
@[simp] theorem asBl2_bl (b : Bool) : asBl2 (.fr (.bl b)) = ret2 b := rfl
@[simp] theorem toLen_int (n : Int) : toLen (.fr (.int n)) = bnd2 (guard2 (decide (0 ≤ n) && decide (n < 2 ^ 63))) fun _ => ret2 (.fr (.int n)) := rfl
@[simp] theorem lenX2_lobj (c : Nat) (fs : List D) : lenX2 C .len [.obj c fs] e = ((callS (C.mt c aLen 0) [.val (.fr (.obj c fs))] e).noEx).bnd toLen := rfl
@[simp] theorem lenX2_lstr (s : Str) : lenX2 C .len [.str s] e = (lift2 (pureO (bltD .len [.str s])) e).bnd fun d => ret2 (.fr d) := rfl
@[simp] theorem lenX2_llst (s : List D) : lenX2 C .len [.lst s] e = (lift2 (pureO (bltD .len [.lst s])) e).bnd fun d => ret2 (.fr d) := rfl
@[simp] theorem lenX2_ltup (s : List D) : lenX2 C .len [.tup s] e = (lift2 (pureO (bltD .len [.tup s])) e).bnd fun d => ret2 (.fr d) := rfl
@[simp] theorem lenX2_lrol (s : List D) : lenX2 C .len [.rol s] e = (lift2 (pureO (bltD .len [.rol s])) e).bnd fun d => ret2 (.fr d) := rfl
theorem lenX2_oth (b : Blt) (hb : b ≠ .len) (ds : List D) : lenX2 C b ds e = (lift2 (pureO (bltD b ds)) e).bnd fun d => ret2 (.fr d) := by
  cases b <;> first | (exact absurd rfl hb) | rfl
@[simp] theorem lenX2_abs (ds : List D) : lenX2 C .abs ds e = (lift2 (pureO (bltD .abs ds)) e).bnd fun d => ret2 (.fr d) := rfl
@[simp] theorem lenX2_max (ds : List D) : lenX2 C .max ds e = (lift2 (pureO (bltD .max ds)) e).bnd fun d => ret2 (.fr d) := rfl
@[simp] theorem lenX2_min (ds : List D) : lenX2 C .min ds e = (lift2 (pureO (bltD .min ds)) e).bnd fun d => ret2 (.fr d) := rfl
@[simp] theorem lenX2_int (ds : List D) : lenX2 C .int ds e = (lift2 (pureO (bltD .int ds)) e).bnd fun d => ret2 (.fr d) := rfl
@[simp] theorem lenX2_str (ds : List D) : lenX2 C .str ds e = (lift2 (pureO (bltD .str ds)) e).bnd fun d => ret2 (.fr d) := rfl
@[simp] theorem lenX2_repr (ds : List D) : lenX2 C .repr ds e = (lift2 (pureO (bltD .repr ds)) e).bnd fun d => ret2 (.fr d) := rfl
@[simp] theorem lenX2_list (ds : List D) : lenX2 C .list ds e = (lift2 (pureO (bltD .list ds)) e).bnd fun d => ret2 (.fr d) := rfl
@[simp] theorem lenX2_tuple (ds : List D) : lenX2 C .tuple ds e = (lift2 (pureO (bltD .tuple ds)) e).bnd fun d => ret2 (.fr d) := rfl
@[simp] theorem lenX2_all (ds : List D) : lenX2 C .all ds e = (lift2 (pureO (bltD .all ds)) e).bnd fun d => ret2 (.fr d) := rfl
@[simp] theorem lenX2_any (ds : List D) : lenX2 C .any ds e = (lift2 (pureO (bltD .any ds)) e).bnd fun d => ret2 (.fr d) := rfl
@[simp] theorem lenX2_bool (ds : List D) : lenX2 C .bool ds e = (lift2 (pureO (bltD .bool ds)) e).bnd fun d => ret2 (.fr d) := rfl
@[simp] theorem lenV_fr (d : D) : lenV C (.fr d) e = lenX2 C .len [d] e := rfl
@[simp] theorem lenV_ls (l : List D) : lenV C (.ls l) e = .ok (.fr (.int l.length)) e := rfl
@[simp] theorem idxV_fr (x y : D) : idxV C y (.fr x) e = idxX2 C x y e := rfl
@[simp] theorem idxV_ls (l : List D) (i : Int) : idxV C (.int i) (.ls l) e = (lift2 (atD l i) e).bnd fun d => ret2 (.fr d) := rfl
@[simp] theorem idxV_dis (l : List (L2.Key × Vl)) (s : Str) : idxV C (.str s) (.di l) e = (lift2 (frO (valV l (.inr s))) e).bnd fun d => ret2 (.fr d) := rfl
@[simp] theorem idxV_dii (l : List (L2.Key × Vl)) (s : Int) : idxV C (.int s) (.di l) e = (lift2 (frO (valV l (.inl s))) e).bnd fun d => ret2 (.fr d) := rfl
@[simp] theorem frO_fr (d : D) : frO (some (.fr d)) = some d := rfl
@[simp] theorem idxX2_obj (c : Nat) (fs : List D) (y : D) : idxX2 C (.obj c fs) y e = callS (C.mt c aItem 1) [.val (.fr (.obj c fs)), .val (.fr y)] e := rfl
@[simp] theorem idxX2_lst (l : List D) (y : D) : idxX2 C (.lst l) y e = (lift2 (pureO (idxD (.lst l) y)) e).bnd fun d => ret2 (.fr d) := rfl
@[simp] theorem idxX2_tup (l : List D) (y : D) : idxX2 C (.tup l) y e = (lift2 (pureO (idxD (.tup l) y)) e).bnd fun d => ret2 (.fr d) := rfl
@[simp] theorem idxX2_rol (l : List D) (y : D) : idxX2 C (.rol l) y e = (lift2 (pureO (idxD (.rol l) y)) e).bnd fun d => ret2 (.fr d) := rfl
@[simp] theorem idxX2_str (l : Str) (y : D) : idxX2 C (.str l) y e = (lift2 (pureO (idxD (.str l) y)) e).bnd fun d => ret2 (.fr d) := rfl
@[simp] theorem slcV_fr (x : D) (a b : Option Int) : slcV a b (.fr x) e = (lift2 (pureO (slcD x a b)) e).bnd fun d => ret2 (.fr d) := rfl
@[simp] theorem slcV_ls (l : List D) (a b : Option Int) : slcV a b (.ls l) e = .ok (.fr (.lst (cutD l a b))) e := rfl
def attQ (C : Cx2) (f : Nat) (o : Option Nat) (c : Nat) (fs : List D) (e : VE) : R2 Vl := match o with
  | some j => (lift2 fs[j]? e).bnd fun d => ret2 (.fr d)
  | none => (callS (C.pr c f) [.val (.fr (.obj c fs))] e).noEx
@[simp] theorem attV_obj (f c : Nat) (fs : List D) (a : Arg) : attV C f a (.fr (.obj c fs)) e = attQ C f ((C.flds c).idxOf? f) c fs e := by
  show (match (C.flds c).idxOf? f with
    | some j => bnd2 (lift2 fs[j]?) fun d => ret2 (Vl.fr d)
    | none => noEx2 (callS (C.pr c f) [.val (.fr (.obj c fs))])) e = _
  unfold attQ
  cases (C.flds c).idxOf? f <;> rfl
@[simp] theorem attQ_some (f j c : Nat) (fs : List D) : attQ C f (some j) c fs e = (lift2 fs[j]? e).bnd fun d => ret2 (.fr d) := rfl
@[simp] theorem attQ_none (f c : Nat) (fs : List D) : attQ C f none c fs e = (callS (C.pr c f) [.val (.fr (.obj c fs))] e).noEx := rfl
def attP (C : Cx2) (f : Nat) (a : Arg) (o : Option Nat) (c : Nat) (fs : List Vl) (e : VE) : R2 Vl := match o with
  | some j => (lift2 (frO fs[j]?) e).bnd fun d => ret2 (.fr d)
  | none => (callS (C.pr c f) [a] e).noEx
@[simp] theorem attV_ob (f c : Nat) (fs : List Vl) (a : Arg) : attV C f a (.ob c fs) e = attP C f a ((C.flds c).idxOf? f) c fs e := by
  show (match (C.flds c).idxOf? f with
    | some j => bnd2 (lift2 (frO fs[j]?)) fun d => ret2 (Vl.fr d)
    | none => noEx2 (callS (C.pr c f) [a])) e = _
  unfold attP
  cases (C.flds c).idxOf? f <;> rfl
@[simp] theorem attP_some (f j c : Nat) (a : Arg) (fs : List Vl) : attP C f a (some j) c fs e = (lift2 (frO fs[j]?) e).bnd fun d => ret2 (.fr d) := rfl
@[simp] theorem attP_none (f c : Nat) (a : Arg) (fs : List Vl) : attP C f a none c fs e = (callS (C.pr c f) [a] e).noEx := rfl
def fldQ (o : Option Nat) (v : Vl) (c : Nat) (fs : List Vl) : Option Vl := match o with
  | some j => if decide (j ≤ fs.length) then some (.ob c (fs.take j ++ v :: fs.drop (j + 1))) else none
  | none => none
@[simp] theorem fldV_ob (f c : Nat) (v : Vl) (fs : List Vl) : fldV C f v (.ob c fs) = fldQ ((C.flds c).idxOf? f) v c fs := by
  unfold fldV fldQ; rfl
@[simp] theorem fldQ_some (j c : Nat) (v : Vl) (fs : List Vl) : fldQ (some j) v c fs = if decide (j ≤ fs.length) then some (.ob c (fs.take j ++ v :: fs.drop (j + 1))) else none := rfl
@[simp] theorem clsV_obj (c : Nat) (fs : List D) : clsV (.fr (.obj c fs)) = ret2 c := rfl
@[simp] theorem clsV_ob (c : Nat) (fs : List Vl) : clsV (.ob c fs) = ret2 c := rfl
@[simp] theorem isiX2_app (ts : List TyN) (x : D) : isiX2 C ts x e = (guard2 (clsOk2 C x && ts.all (tyOk2 C)) e).bnd fun _ => bnd2 (lift2 (isTys ts x)) fun k => ret2 (.fr (.bl k)) := rfl
@[simp] theorem clsOk2_obj (c : Nat) (fs : List D) : clsOk2 C (.obj c fs) = C.cls.contains c := rfl
@[simp] theorem clsOk2_int (i : Int) : clsOk2 C (.int i) = true := rfl
@[simp] theorem clsOk2_bl (i : Bool) : clsOk2 C (.bl i) = true := rfl
@[simp] theorem clsOk2_str (i : Str) : clsOk2 C (.str i) = true := rfl
@[simp] theorem clsOk2_lst (i : List D) : clsOk2 C (.lst i) = true := rfl
@[simp] theorem clsOk2_tup (i : List D) : clsOk2 C (.tup i) = true := rfl
@[simp] theorem clsOk2_non : clsOk2 C .non = true := rfl
@[simp] theorem tyOk2_int : tyOk2 C .int = true := rfl
@[simp] theorem tyOk2_bool : tyOk2 C .bool = true := rfl
@[simp] theorem tyOk2_str : tyOk2 C .str = true := rfl
@[simp] theorem tyOk2_list : tyOk2 C .list = true := rfl
@[simp] theorem tyOk2_tuple : tyOk2 C .tuple = true := rfl
@[simp] theorem tyOk2_cls (c : Nat) : tyOk2 C (.cls c) = C.cls.contains c := rfl
@[simp] theorem ginX2_str (x : Nat) (neg : Bool) (s : Str) : ginX2 C x neg (.str s) e = (lift2 (C.gd x) e).bnd fun kvs => ret2 (.fr (.bl (if neg then !(kvs.lookup s).isSome else (kvs.lookup s).isSome))) := rfl
@[simp] theorem gixX2_str (x : Nat) (s : Str) : gixX2 C x (.str s) e = (lift2 (C.gd x) e).bnd fun kvs => bnd2 (lift2 (kvs.lookup s)) fun d => ret2 (.fr d) := rfl
/-! statements -/
def parQ (C : Cx2) (o : Option (List Nat × CL)) (t : CT) (a : CE) (e : VE) : R2 Fl2 := match o with
  | some (is, es) => (evW C es e).bnd fun vs => bnd2 (guard2 (fitB vs.length)) fun _ => bnd2 (setsV is vs) fun _ => ret2 .nx
  | none => (ev C a e).bnd fun v => bnd2 (noEx2 (as2 C t v)) fun _ => ret2 .nx
@[simp] theorem c_asg (t : CT) (a : CE) : es2 C (.asg t a) e = parQ C (parA t a) t a e := by
  show (match parA t a with
    | some (is, es) => bnd2 (evW C es) fun vs => bnd2 (guard2 (fitB vs.length)) fun _ => bnd2 (setsV is vs) fun _ => ret2 Fl2.nx
    | none => bnd2 (ev C a) fun v => bnd2 (noEx2 (as2 C t v)) fun _ => ret2 Fl2.nx) e = _
  unfold parQ
  cases parA t a with
  | none => rfl
  | some p => rfl
@[simp] theorem parQ_some (is : List Nat) (es : CL) (t : CT) (a : CE) : parQ C (some (is, es)) t a e = (evW C es e).bnd fun vs => bnd2 (guard2 (fitB vs.length)) fun _ => bnd2 (setsV is vs) fun _ => ret2 .nx := rfl
@[simp] theorem parQ_none (t : CT) (a : CE) : parQ C none t a e = (ev C a e).bnd fun v => bnd2 (noEx2 (as2 C t v)) fun _ => ret2 .nx := rfl
@[simp] theorem parA_nam (i : Nat) (a : CE) : parA (.nam i) a = none := rfl
@[simp] theorem parA_sub (x y : CE) (a : CE) : parA (.sub x y) a = none := rfl
@[simp] theorem parA_hdt (i j : Nat) (a : CE) : parA (.hdt i j) a = none := rfl
@[simp] theorem parA_att (x : CE) (f : Nat) (a : CE) : parA (.att x f) a = none := rfl
def parN (o : Option (List Nat)) (es : CL) : Option (List Nat × CL) := match o with
  | some is => if is.length == es.len && noOne es then some (is, es) else none
  | none => none
@[simp] theorem parA_tup (ts : CTL) (es : CL) : parA (.tup ts) (.tup es) = parN (names ts) es := by
  unfold parA parN; rfl
@[simp] theorem parN_some (is : List Nat) (es : CL) : parN (some is) es = if is.length == es.len && noOne es then some (is, es) else none := rfl
@[simp] theorem parN_none (es : CL) : parN none es = none := rfl
@[simp] theorem parA_cal (ts : CTL) (f : Nat) (es : CL) : parA (.tup ts) (.cal f es) = none := rfl
@[simp] theorem parA_var (ts : CTL) (f : Nat) : parA (.tup ts) (.var f) = none := rfl
@[simp] theorem parA_idx (ts : CTL) (a b : CE) : parA (.tup ts) (.idx a b) = none := rfl
@[simp] theorem parA_ite (ts : CTL) (a b c : CE) : parA (.tup ts) (.ite a b c) = none := rfl
@[simp] theorem parA_att2 (ts : CTL) (a : CE) (f : Nat) : parA (.tup ts) (.att a f) = none := rfl
@[simp] theorem parA_mth (ts : CTL) (a : CE) (f : Nat) (es : CL) : parA (.tup ts) (.mth a f es) = none := rfl
@[simp] theorem names_nil : names .nil = some [] := rfl
@[simp] theorem names_cons (i : Nat) (r : CTL) : names (.cons (.nam i) r) = (names r).map (i :: ·) := rfl
@[simp] theorem names_conss (a b : CE) (r : CTL) : names (.cons (.sub a b) r) = none := rfl
@[simp] theorem names_consa (a : CE) (f : Nat) (r : CTL) : names (.cons (.att a f) r) = none := rfl
@[simp] theorem names_const (t r : CTL) : names (.cons (.tup t) r) = none := rfl
@[simp] theorem cl_len_nil : CL.len .nil = 0 := rfl
@[simp] theorem cl_len_one (a : CE) (r : CL) : CL.len (.one a r) = r.len + 1 := rfl
@[simp] theorem ctl_len_nil : CTL.len .nil = 0 := rfl
@[simp] theorem ctl_len_cons (a : CT) (r : CTL) : CTL.len (.cons a r) = r.len + 1 := rfl
@[simp] theorem noOne_nil : noOne .nil = true := rfl
@[simp] theorem noOne_one (a : CE) (r : CL) : noOne (.one a r) = noOne r := rfl
@[simp] theorem c_aug (i : Nat) (o : BOp) (a : CE) : es2 C (.aug i o a) e = ((takeR e[i]? i e).bnd asFr).bnd fun x => bnd2 (bnd2 (ev C a) asFr) fun y => bnd2 (lift2 (augD o x y)) fun z => bnd2 (setV i (.fr z)) fun _ => ret2 .nx := rfl
@[simp] theorem augD_int (o : BOp) (i j : Int) : augD o (.int i) (.int j) = pureO (binD o (.int i) (.int j)) := rfl
@[simp] theorem c_exp (a : CE) : es2 C (.exp a) e = (ev C a e).bnd fun _ => ret2 .nx := rfl
@[simp] theorem c_ret (a : CE) : es2 C (.ret a) e = (ev C a e).bnd fun v => ret2 (.ret v) := rfl
@[simp] theorem c_retN : es2 C .retN e = .ok (.ret (.fr .non)) e := rfl
@[simp] theorem c_ite (c : CE) (a b : CSs) : es2 C (.ite c a b) e = (((ev C c e).bnd asFr).bnd fun x => lift2 (pureO (truD x))).bnd fun k => if k = true then ess2 C a else ess2 C b := rfl
@[simp] theorem c_for (t : CT) (i : CI) (b : CSs) : es2 C (.for_ t i b) e = (evI2 C i e).bnd fun its => for2 (as2 C t) (ess2 C b) its := rfl
@[simp] theorem c_whl (c : CE) (b : CSs) : es2 C (.whl c b) e = whl2 (bnd2 (bnd2 (ev C c) asFr) fun x => lift2 (pureO (truD x))) (ess2 C b) C.fuel e := rfl
@[simp] theorem c_brk : es2 C .brk e = .ok .brk e := rfl
@[simp] theorem c_cnt : es2 C .cnt e = .ok .cnt e := rfl
@[simp] theorem c_pas : es2 C .pas e = .ok .nx e := rfl
@[simp] theorem c_bad : es2 C .bad e = .stuck := rfl
@[simp] theorem c_rai (c : Nat) (a : CE) : es2 C (.rai c a) e = ((ev C a e).bnd asFr).bnd fun d => thw2 ⟨c, d⟩ := rfl
@[simp] theorem cs_nil : ess2 C .nil e = .ok .nx e := rfl
def seqR (C : Cx2) (r : CSs) : Fl2 → M2 Fl2
  | .nx => ess2 C r
  | f => ret2 f
@[simp] theorem seqR_nx (r : CSs) : seqR C r .nx = ess2 C r := rfl
@[simp] theorem seqR_ret (r : CSs) (v : Vl) : seqR C r (.ret v) = ret2 (.ret v) := rfl
@[simp] theorem seqR_brk (r : CSs) : seqR C r .brk = ret2 .brk := rfl
@[simp] theorem seqR_cnt (r : CSs) : seqR C r .cnt = ret2 .cnt := rfl
@[simp] theorem cs_cons (s : CS) (r : CSs) : ess2 C (.cons s r) e = (es2 C s e).bnd (seqR C r) := by
  show bnd2 _ _ e = _
  first | rfl | (unfold bnd2; congr 1; funext x; cases x <;> rfl)
end
@[simp] theorem isVar_var (i : Nat) : isVar (.var i) = some i := rfl
@[simp] theorem isVar_con (d : D) : isVar (.con d) = none := rfl
@[simp] theorem isVar_frz (i : Nat) : isVar (.frz i) = none := rfl
@[simp] theorem isVar_glo (i : Nat) : isVar (.glo i) = none := rfl
@[simp] theorem isVar_neg (a : CE) : isVar (.neg a) = none := rfl
@[simp] theorem isVar_bin (o : BOp) (a b : CE) : isVar (.bin o a b) = none := rfl
@[simp] theorem isVar_cmp (o : COp) (a b : CE) : isVar (.cmp o a b) = none := rfl
@[simp] theorem isVar_chn (o p : COp) (a b c : CE) : isVar (.chn o p a b c) = none := rfl
@[simp] theorem isVar_and (a b : CE) : isVar (.and a b) = none := rfl
@[simp] theorem isVar_or (a b : CE) : isVar (.or a b) = none := rfl
@[simp] theorem isVar_not (a : CE) : isVar (.not a) = none := rfl
@[simp] theorem isVar_ite (c a b : CE) : isVar (.ite c a b) = none := rfl
@[simp] theorem isVar_tup (es : CL) : isVar (.tup es) = none := rfl
@[simp] theorem isVar_lst (es : CL) : isVar (.lst es) = none := rfl
@[simp] theorem isVar_lsc (es : CL) : isVar (.lsc es) = none := rfl
@[simp] theorem isVar_dcc (ks : List L2.Key) (es : CL) : isVar (.dcc ks es) = none := rfl
@[simp] theorem isVar_gin (x : Nat) (a : CE) (n : Bool) : isVar (.gin x a n) = none := rfl
@[simp] theorem isVar_gix (x : Nat) (a : CE) : isVar (.gix x a) = none := rfl
@[simp] theorem isVar_idx (a i : CE) : isVar (.idx a i) = none := rfl
@[simp] theorem isVar_slc (a : CE) (l h : CO) : isVar (.slc a l h) = none := rfl
@[simp] theorem isVar_rev (a : CE) : isVar (.rev a) = none := rfl
@[simp] theorem isVar_att (a : CE) (f : Nat) : isVar (.att a f) = none := rfl
@[simp] theorem isVar_cal (f : Nat) (es : CL) : isVar (.cal f es) = none := rfl
@[simp] theorem isVar_mak (f : Nat) (es : CL) : isVar (.mak f es) = none := rfl
@[simp] theorem isVar_mkc (f : Nat) (es : CL) : isVar (.mkc f es) = none := rfl
@[simp] theorem isVar_clm (f c : Nat) (es : CL) : isVar (.clm f c es) = none := rfl
@[simp] theorem isVar_mkv (f c : Nat) (es : CL) : isVar (.mkv f c es) = none := rfl
@[simp] theorem isVar_mth (o : CE) (f : Nat) (es : CL) : isVar (.mth o f es) = none := rfl
@[simp] theorem isVar_blt (b : Blt) (es : CL) : isVar (.blt b es) = none := rfl
@[simp] theorem isVar_bmt (m : BMt) (o : CE) (es : CL) : isVar (.bmt m o es) = none := rfl
@[simp] theorem isVar_isi (a : CE) (ts : List TyN) : isVar (.isi a ts) = none := rfl
@[simp] theorem isVar_com (own : List Nat) (t : CT) (i : CI) (c : CO) (a : CE) : isVar (.com own t i c a) = none := rfl
@[simp] theorem isVar_fst (es : CL) : isVar (.fst es) = none := rfl
@[simp] theorem isVar_dnw : isVar .dnw = none := rfl
@[simp] theorem outs_nil (e : VE) : outs [] e = [] := by unfold outs; rfl
@[simp] theorem outs_fr (d : D) (vs : List Vl) (o : Option Vl) (e : VE) : outs (.fr d :: vs) (o :: e) = none :: outs vs e := rfl
@[simp] theorem outs_ls (d : List D) (vs : List Vl) (o : Option Vl) (e : VE) : outs (.ls d :: vs) (o :: e) = o :: outs vs e := rfl
@[simp] theorem outs_di (d : List (L2.Key × Vl)) (vs : List Vl) (o : Option Vl) (e : VE) : outs (.di d :: vs) (o :: e) = o :: outs vs e := rfl
@[simp] theorem outs_ob (c : Nat) (d : List Vl) (vs : List Vl) (o : Option Vl) (e : VE) : outs (.ob c d :: vs) (o :: e) = o :: outs vs e := rfl
@[simp] theorem fin2_nx (vs : List Vl) (e : VE) : fin2 vs (.ok .nx e) = .ok (.fr .non) (outs vs e) := rfl
@[simp] theorem fin2_ret (vs : List Vl) (v : Vl) (e : VE) : fin2 vs (.ok (.ret v) e) = .ok v (outs vs e) := rfl
@[simp] theorem fin2_ex (vs : List Vl) (x : Exn) (e : VE) : fin2 vs (.ex x e) = .ex x (outs vs e) := rfl
@[simp] theorem start2_app (n : Nat) (vs : List Vl) : start2 n vs = vs.map some ++ List.replicate (n - vs.length) none := rfl
theorem sem2_app (d : Def) (C : Cx2) (vs : List Vl) (h1 : vs.length = d.np) (h2 : rbOk (tgss d.body) 0 vs = true) : d.sem2 C vs = fin2 vs (ess2 C d.body (start2 d.ns vs)) := by
  unfold Def.sem2
  rw [if_pos h1, if_pos h2]
/-! ways that meet again -/
@[simp] theorem okv_ite {α : Type} {c : Prop} [Decidable c] (a b : α) (e : VE) : (if c then (R2.ok a e) else .ok b e) = .ok (if c then a else b) e := by split <;> rfl
@[simp] theorem fr_ite {c : Prop} [Decidable c] (a b : D) : (if c then Vl.fr a else .fr b) = .fr (if c then a else b) := by split <;> rfl
@[simp] theorem bl_ite {c : Prop} [Decidable c] (a b : Bool) : (if c then D.bl a else .bl b) = .bl (if c then a else b) := by split <;> rfl
@[simp] theorem int_ite {c : Prop} [Decidable c] (a b : Int) : (if c then D.int a else .int b) = .int (if c then a else b) := by split <;> rfl
@[simp] theorem str_ite {c : Prop} [Decidable c] (a b : Str) : (if c then D.str a else .str b) = .str (if c then a else b) := by split <;> rfl
end SX
end
section
set_option Elab.async false
set_option linter.all false
set_option maxRecDepth 100000
set_option maxHeartbeats 4000000
/-! VR3: comprehensions and loops. -/
namespace SX
open PySem
theorem rest_wipe {own : List Nat} {e e' : VE} (h : wipeL own e' = wipeL own e) : rest2 e own e' = e := by
  have hl : e'.length = e.length := by rw [← wipeL_len own e', h, wipeL_len]
  apply List.ext_getElem?
  intro i
  by_cases q : i ∈ own
  · exact rest2_in e own e' hl.symm q
  · rw [rest2_out e own e' q, ← wipeL_out own e' q, h, wipeL_out own e q]
theorem wipe_wipe {e : VE} : ∀ (own : List Nat), wipeL own (wipeL own e) = wipeL own e := fun own => by
  apply List.ext_getElem?
  intro i
  by_cases q : i ∈ own
  · have h1 : ∀ e : VE, i < e.length → (wipeL own e)[i]? = some none := fun e hi => by
      cases z : (wipeL own e)[i]? with
      | none =>
        rw [List.getElem?_eq_none_iff, wipeL_len] at z
        omega
      | some o =>
        cases o with
        | none => rfl
        | some v => exact absurd z (wipeL_in own e v q)
    by_cases hi : i < e.length
    · rw [h1 e hi, h1 _ (by rw [wipeL_len]; exact hi)]
    · rw [List.getElem?_eq_none_iff.mpr (by rw [wipeL_len, wipeL_len]; omega), List.getElem?_eq_none_iff.mpr (by rw [wipeL_len]; omega)]
  · rw [wipeL_out own _ q]
/-- what a turn of a comprehension does behind its wiping -/
def turnR (mt : Vl → M2 Unit) (mc : M2 Bool) (me : M2 D) (d : D) (e : VE) : R2 (Option D) := (mt (.fr d) e).bnd fun _ => bnd2 mc fun k => if k = true then bnd2 me fun y => ret2 (some y) else ret2 none
theorem turn2_app (own : List Nat) (mt : Vl → M2 Unit) (mc : M2 Bool) (me : M2 D) (d : D) (e : VE) : turn2 own mt mc me d e = turnR mt mc me d (wipeL own e) := by
  unfold turn2
  rw [bnd2_app, wipe2_eq]
  rfl
theorem com2_pure {own : List Nat} {mt : Vl → M2 Unit} {mc : M2 Bool} {me : M2 D} {W : VE} {g : D → Option D} : ∀ (its acc : List D) (e : VE), wipeL own e = W → acc.length + its.length < 16777216 → (∀ d ∈ its, ∃ e', turnR mt mc me d W = .ok (g d) e' ∧ wipeL own e' = W) → ∃ e', com2 (turn2 own mt mc me) its acc e = .ok (acc ++ its.filterMap g) e' ∧ wipeL own e' = W
  | [], acc, e, he, _, _ => ⟨e, by simp [com2], he⟩
  | d :: its, acc, e, he, hl, h => by
    have hl' : acc.length + (its.length + 1) < 16777216 := hl
    obtain ⟨e1, r1, w1⟩ := h d List.mem_cons_self
    have h' : ∀ d ∈ its, ∃ e', turnR mt mc me d W = .ok (g d) e' ∧ wipeL own e' = W := fun d hd => h d (List.mem_cons_of_mem _ hd)
    unfold com2
    rw [bnd2_app, turn2_app, he, r1]
    cases hg : g d with
    | none =>
      obtain ⟨e2, r2, w2⟩ := com2_pure its acc e1 w1 (by omega) h'
      refine ⟨e2, ?_, w2⟩
      rw [List.filterMap_cons, hg]
      exact r2
    | some y =>
      obtain ⟨e2, r2, w2⟩ := com2_pure its (acc ++ [y]) e1 w1 (by simp; omega) h'
      refine ⟨e2, ?_, w2⟩
      have g1 : decide (acc.length < 16777216) = true := decide_eq_true (by omega)
      show bnd2 (guard2 _) _ e1 = _
      rw [bnd2_app, guard2_app, if_pos g1]
      rw [List.filterMap_cons, hg]
      simpa using r2
/-- a comprehension that changes nothing -/
theorem com_pure {C : Cx2} {own : List Nat} {t : CT} {i : CI} {c : CO} {a : CE} {e : VE} {its : List D} {g : D → Option D} (h : ((tgsT t).all fun x => own.contains x) = true) (hk : keepFr e own = true) (hi : evI2 C i e = .ok its e) (hl : its.length < 16777216)
    (ht : ∀ d ∈ its, ∃ e', turnR (as2 C t) (evT2 C c) (bnd2 (ev C a) asFr) d (wipeL own e) = .ok (g d) e' ∧ wipeL own e' = wipeL own e) : ev C (.com own t i c a) e = .ok (.fr (.lst (its.filterMap g))) e := by
  rw [x_com C e own t i c a h]
  unfold comM2
  rw [if_pos hk]
  obtain ⟨e', r, w⟩ := com2_pure (own := own) its [] e rfl (by simpa using hl) ht
  have : noEx2 (bnd2 (evI2 C i) fun its => com2 (turn2 own (as2 C t) (evT2 C c) (bnd2 (ev C a) asFr)) its []) e = .ok (its.filterMap g) e' := by
    rw [noEx2_app, bnd2_app, hi, rb_ok, r]
    rfl
  rw [this]
  show R2.ok _ (rest2 e own e') = _
  rw [rest_wipe w]
theorem filterMap_some {α β : Type} (f : α → β) (l : List α) : l.filterMap (fun x => some (f x)) = l.map f := by
  induction l with
  | nil => rfl
  | cons a l ih => simp [ih]
/-- the same without a test -/
theorem com_map {α : Type} {C : Cx2} {own : List Nat} {t : CT} {i : CI} {a : CE} {e : VE} {xs : List α} {dd : α → D} {g : α → D} (h : ((tgsT t).all fun x => own.contains x) = true) (hk : keepFr e own = true) (hi : evI2 C i e = .ok (xs.map dd) e) (hl : xs.length < 16777216)
    (ht : ∀ x ∈ xs, ∃ e', turnR (as2 C t) (evT2 C .no) (bnd2 (ev C a) asFr) (dd x) (wipeL own e) = .ok (some (g x)) e' ∧ wipeL own e' = wipeL own e) : ev C (.com own t i .no a) e = .ok (.fr (.lst (xs.map g))) e := by
  rw [x_com C e own t i .no a h]
  unfold comM2
  rw [if_pos hk]
  have main : ∀ (xs : List α) (acc : List D) (e1 : VE), wipeL own e1 = wipeL own e → acc.length + xs.length < 16777216 → (∀ x ∈ xs, ∃ e', turnR (as2 C t) (evT2 C .no) (bnd2 (ev C a) asFr) (dd x) (wipeL own e) = .ok (some (g x)) e' ∧ wipeL own e' = wipeL own e) → ∃ e', com2 (turn2 own (as2 C t) (evT2 C .no) (bnd2 (ev C a) asFr)) (xs.map dd) acc e1 = .ok (acc ++ xs.map g) e' ∧ wipeL own e' = wipeL own e := fun xs => by
    induction xs with
    | nil => exact fun acc e1 he _ _ => ⟨e1, by simp [com2], he⟩
    | cons x xs ih =>
      intro acc e1 he hl hx
      have hl' : acc.length + (xs.length + 1) < 16777216 := hl
      obtain ⟨e2, r2, w2⟩ := hx x List.mem_cons_self
      obtain ⟨e3, r3, w3⟩ := ih (acc ++ [g x]) e2 w2 (by simp; omega) fun y hy => hx y (List.mem_cons_of_mem _ hy)
      refine ⟨e3, ?_, w3⟩
      rw [List.map_cons]
      unfold com2
      rw [bnd2_app, turn2_app, he, r2]
      have g1 : decide (acc.length < 16777216) = true := decide_eq_true (by omega)
      show bnd2 (guard2 _) _ e2 = _
      rw [bnd2_app, guard2_app, if_pos g1]
      simpa using r3
  obtain ⟨e', r, w⟩ := main xs [] e rfl (by simpa using hl) ht
  have : noEx2 (bnd2 (evI2 C i) fun its => com2 (turn2 own (as2 C t) (evT2 C .no) (bnd2 (ev C a) asFr)) its []) e = .ok (xs.map g) e' := by
    rw [noEx2_app, bnd2_app, hi, rb_ok, r]
    simp
  rw [this]
  show R2.ok _ (rest2 e own e') = _
  rw [rest_wipe w]
@[simp] theorem turnR_app (mt : Vl → M2 Unit) (mc : M2 Bool) (me : M2 D) (d : D) (e : VE) : turnR mt mc me d e = (mt (.fr d) e).bnd fun _ => bnd2 mc fun k => if k = true then bnd2 me fun y => ret2 (some y) else ret2 none := rfl
@[simp] theorem wipeL_nil (e : VE) : wipeL [] e = e := rfl
@[simp] theorem wipeL_cons (v : Nat) (vs : List Nat) (e : VE) : wipeL (v :: vs) e = (wipeL vs e).set v none := rfl
@[simp] theorem keepFr_nil (e : VE) : keepFr e [] = true := rfl
@[simp] theorem keepFr_cons (e : VE) (v : Nat) (vs : List Nat) : keepFr e (v :: vs) = ((match e[v]? with
    | some (some (.fr _)) => true
    | some none => true
    | none => true
    | _ => false) && keepFr e vs) := rfl
/-! loops -/
def trnR (C : Cx2) (n : M2 Fl2) : Fl2 → M2 Fl2
  | .nx => n
  | .cnt => n
  | .brk => ret2 .nx
  | .ret v => ret2 (.ret v)
theorem for2_nil (asg : Vl → M2 Unit) (body : M2 Fl2) (e : VE) : for2 asg body [] e = .ok .nx e := rfl
theorem for2_cons (asg : Vl → M2 Unit) (body : M2 Fl2) (d : D) (l : List D) (e : VE) : for2 asg body (d :: l) e = (asg (.fr d) e).noEx.bnd fun _ => trn2 body (for2 asg body l) := rfl
def trnQ (n : M2 Fl2) : Fl2 → M2 Fl2
  | .nx => n
  | .cnt => n
  | .brk => ret2 .nx
  | .ret v => ret2 (.ret v)
@[simp] theorem trnQ_nx (n : M2 Fl2) : trnQ n .nx = n := rfl
@[simp] theorem trnQ_cnt (n : M2 Fl2) : trnQ n .cnt = n := rfl
@[simp] theorem trnQ_brk (n : M2 Fl2) : trnQ n .brk = ret2 .nx := rfl
@[simp] theorem trnQ_ret (n : M2 Fl2) (v : Vl) : trnQ n (.ret v) = ret2 (.ret v) := rfl
@[simp] theorem trn2_app (b n : M2 Fl2) (e : VE) : trn2 b n e = (b e).bnd (trnQ n) := by
  show bnd2 _ _ e = _
  first | rfl | (unfold bnd2; congr 1; funext x; cases x <;> rfl)
/-- one turn that goes on -/
theorem for2_step {asg : Vl → M2 Unit} {body : M2 Fl2} {d : D} {l : List D} {e e1 e2 : VE} (h1 : asg (.fr d) e = .ok () e1) (h2 : body e1 = .ok .nx e2) : for2 asg body (d :: l) e = for2 asg body l e2 := by
  show bnd2 (noEx2 (asg (.fr d))) _ e = _
  rw [bnd2_app, noEx2_app, h1]
  show trn2 body (for2 asg body l) e1 = _
  unfold trn2
  rw [bnd2_app, h2]
  rfl
theorem for2_cnt {asg : Vl → M2 Unit} {body : M2 Fl2} {d : D} {l : List D} {e e1 e2 : VE} (h1 : asg (.fr d) e = .ok () e1) (h2 : body e1 = .ok .cnt e2) : for2 asg body (d :: l) e = for2 asg body l e2 := by
  show bnd2 (noEx2 (asg (.fr d))) _ e = _
  rw [bnd2_app, noEx2_app, h1]
  show trn2 body (for2 asg body l) e1 = _
  unfold trn2
  rw [bnd2_app, h2]
  rfl
theorem for2_ret {asg : Vl → M2 Unit} {body : M2 Fl2} {d : D} {l : List D} {e e1 e2 : VE} {v : Vl} (h1 : asg (.fr d) e = .ok () e1) (h2 : body e1 = .ok (.ret v) e2) : for2 asg body (d :: l) e = .ok (.ret v) e2 := by
  show bnd2 (noEx2 (asg (.fr d))) _ e = _
  rw [bnd2_app, noEx2_app, h1]
  show trn2 body (for2 asg body l) e1 = _
  unfold trn2
  rw [bnd2_app, h2]
  rfl
theorem for2_brk {asg : Vl → M2 Unit} {body : M2 Fl2} {d : D} {l : List D} {e e1 e2 : VE} (h1 : asg (.fr d) e = .ok () e1) (h2 : body e1 = .ok .brk e2) : for2 asg body (d :: l) e = .ok .nx e2 := by
  show bnd2 (noEx2 (asg (.fr d))) _ e = _
  rw [bnd2_app, noEx2_app, h1]
  show trn2 body (for2 asg body l) e1 = _
  unfold trn2
  rw [bnd2_app, h2]
  rfl
theorem for2_ex {asg : Vl → M2 Unit} {body : M2 Fl2} {d : D} {l : List D} {e e1 e2 : VE} {x : Exn} (h1 : asg (.fr d) e = .ok () e1) (h2 : body e1 = .ex x e2) : for2 asg body (d :: l) e = .ex x e2 := by
  show bnd2 (noEx2 (asg (.fr d))) _ e = _
  rw [bnd2_app, noEx2_app, h1]
  show trn2 body (for2 asg body l) e1 = _
  unfold trn2
  rw [bnd2_app, h2]
  rfl
/-- a loop that runs to its end, with a state -/
theorem for2_run {α σ : Type} {asg : Vl → M2 Unit} {body : M2 Fl2} {dd : α → D} {f : σ → α → σ} (J : σ → VE → Prop) : ∀ (xs : List α) (s : σ) (e : VE), J s e → (∀ s, ∀ x ∈ xs, ∀ e, J s e → ∃ e1 e2, asg (.fr (dd x)) e = .ok () e1 ∧ body e1 = .ok .nx e2 ∧ J (f s x) e2) → ∃ e', for2 asg body (xs.map dd) e = .ok .nx e' ∧ J (xs.foldl f s) e'
  | [], s, e, j, _ => ⟨e, rfl, j⟩
  | x :: xs, s, e, j, h => by
    obtain ⟨e1, e2, h1, h2, j2⟩ := h s x List.mem_cons_self e j
    obtain ⟨e', r, j'⟩ := for2_run J xs (f s x) e2 j2 fun s y hy => h s y (List.mem_cons_of_mem _ hy)
    exact ⟨e', by rw [List.map_cons, for2_step h1 h2, r], j'⟩
end SX
end
section
set_option Elab.async false
set_option linter.all false
set_option maxRecDepth 100000
set_option maxHeartbeats 4000000
/-! VR4: texts in readings. -/
namespace SX
open PySem
theorem char_inj {a b : Char} (h : a.toNat = b.toNat) : a = b := Char.ext (UInt32.toNat_inj.mp h)
theorem map_inj {f : Char → Nat} (hf : ∀ a b, f a = f b → a = b) : ∀ {l k : List Char}, l.map f = k.map f → l = k
  | [], [], _ => rfl
  | [], _ :: _, h => by cases h
  | _ :: _, [], h => by cases h
  | a :: l, b :: k, h => by
    rw [List.map_cons, List.map_cons, List.cons.injEq] at h
    rw [hf a b h.1, map_inj hf h.2]
theorem ofS_inj' {a b : String} (h : Str.ofString a = Str.ofString b) : a = b := by
  rw [Str.ofString_eq_toList, Str.ofString_eq_toList] at h
  have h1 : (a.toList.map Char.toNat).toArray = (b.toList.map Char.toNat).toArray := congrArg Str.cps h
  have h2 : a.toList.map Char.toNat = b.toList.map Char.toNat := congrArg Array.toList h1
  exact String.toList_inj.mp (map_inj (fun _ _ e => char_inj e) h2)
@[simp] theorem ofS_inj (a b : String) : (Str.ofString a = Str.ofString b) = (a = b) := propext ⟨ofS_inj', fun h => by rw [h]⟩
@[simp] theorem ofS_beq (a b : String) : (Str.ofString a == Str.ofString b) = (a == b) := by
  by_cases h : a = b
  · rw [h]; simp
  · rw [beq_eq_false_iff_ne.mpr h]
    exact beq_eq_false_iff_ne.mpr fun z => h (ofS_inj' z)
@[simp] theorem ofS_ok (s : String) : PyData.strOk (Str.ofString s) = true := by
  rw [Str.ofString_eq_toList]
  unfold PyData.strOk
  rw [← Array.all_toList]
  show ((s.toList.map Char.toNat).all fun c => decide (c < 0x110000)) = true
  rw [List.all_map]
  refine List.all_eq_true.mpr fun c _ => decide_eq_true ?_
  have := c.valid
  rcases this with h | h
  · show c.val.toNat < _; have : c.val.toNat < 0xd800 := h; omega
  · show c.val.toNat < _; have : c.val.toNat < 0x110000 := h.2; omega
theorem ofS_cps (s : String) : (Str.ofString s).cps.toList = s.toList.map Char.toNat := by rw [Str.ofString_eq_toList]
theorem ofS_len (s : String) : (Str.ofString s).length = s.toList.length := by
  unfold Str.length
  rw [← Array.length_toList, ofS_cps, List.length_map]
theorem eq_strs {a b : Str} (ha : PyData.strOk a = true) (hb : PyData.strOk b = true) : eqP (.str a) (.str b) = some (decide (a = b)) := by
  have e : PyData.eqv (.str a) (.str b) = decide (a = b) := by
    first | rfl | (unfold PyData.eqv; rfl) | simp [PyData.eqv]
  unfold eqP
  show (if SeqAt.shaped (.str a) && SeqAt.shaped (.str b) then some (PyData.eqv (.str a) (.str b)) else none) = _
  rw [e]
  simp [SeqAt.shaped, PyData.canLay0, PyData.depth, ha, hb]
@[simp] theorem cmp_strs {a b : Str} (ha : PyData.strOk a = true) (hb : PyData.strOk b = true) : cmpD .eq (.str a) (.str b) = some (decide (a = b)) := eq_strs ha hb
@[simp] theorem cmp_strn {a b : Str} (ha : PyData.strOk a = true) (hb : PyData.strOk b = true) : cmpD .ne (.str a) (.str b) = some (!decide (a = b)) := by
  show negO true (eqP (.str a) (.str b)) = _
  rw [eq_strs ha hb]; rfl
@[simp] theorem fitB_app (n : Nat) : fitB n = decide (n ≤ 16777216) := rfl
/-! places -/
theorem atD_nat (l : List D) (n : Nat) (i : Int) (h : i = n) : atD l i = l[n]? := by
  subst h
  unfold atD
  by_cases q : n < l.length
  · have e : SX.ixN l.length (n : Int) = some n := by
      unfold SX.ixN L2.ixN
      simp
      omega
    rw [e]; rfl
  · have e : SX.ixN l.length (n : Int) = none ∨ SX.ixN l.length (n : Int) = some n := by
      unfold SX.ixN L2.ixN
      simp
      omega
    have e2 : l[n]? = none := List.getElem?_eq_none_iff.mpr (by omega)
    rcases e with e | e
    · rw [e, e2]; rfl
    · rw [e]; rfl
@[simp] theorem atD_0 (l : List D) : atD l 0 = l[0]? := atD_nat l 0 0 rfl
@[simp] theorem atD_1 (l : List D) : atD l 1 = l[1]? := atD_nat l 1 1 rfl
@[simp] theorem atD_2 (l : List D) : atD l 2 = l[2]? := atD_nat l 2 2 rfl
@[simp] theorem atD_3 (l : List D) : atD l 3 = l[3]? := atD_nat l 3 3 rfl
@[simp] theorem atD_4 (l : List D) : atD l 4 = l[4]? := atD_nat l 4 4 rfl
@[simp] theorem atD_n (l : List D) (n : Nat) : atD l (n : Int) = l[n]? := atD_nat l n n rfl
@[simp] theorem atD_last (l : List D) : atD l (-1) = l.getLast? := by
  unfold atD
  cases l with
  | nil => rfl
  | cons d l =>
    have e : SX.ixN (d :: l).length (-1) = some l.length := by
      unfold SX.ixN L2.ixN
      simp
      omega
    rw [e]
    rw [List.getLast?_eq_getElem?]
    rfl
theorem sIx_none (n d : Nat) : HT.sIx n d none = d := by unfold HT.sIx; simp
@[simp] theorem cutD_all {α : Type} (l : List α) : cutD l none none = l := by
  unfold cutD
  rw [sIx_none, sIx_none]
  simp
theorem sIx_nat (n d k : Nat) (h : k ≤ n) : HT.sIx n d (some (k : Int)) = k := by
  unfold HT.sIx
  simp
  try split
  all_goals omega
theorem sIx_nat' (n d k : Nat) : HT.sIx n d (some (k : Int)) = min k n := by
  unfold HT.sIx
  simp
  try split
  all_goals omega
theorem cutD_from {α : Type} (l : List α) (k : Nat) : cutD l (some (k : Int)) none = l.drop k := by
  unfold cutD
  rw [sIx_none, sIx_nat']
  by_cases h : k ≤ l.length
  · rw [Nat.min_eq_left h]
    rw [List.take_of_length_le (by simp)]
  · rw [Nat.min_eq_right (by omega)]
    rw [List.drop_eq_nil_of_le (Nat.le_refl _), List.drop_eq_nil_of_le (by omega)]
    simp
@[simp] theorem cutD_1 {α : Type} (l : List α) : cutD l (some 1) none = l.drop 1 := cutD_from l 1
theorem cutD_to {α : Type} (l : List α) (k : Nat) : cutD l none (some (k : Int)) = l.take k := by
  unfold cutD
  rw [sIx_none, sIx_nat']
  simp
  try (by_cases h : k ≤ l.length
       · rw [Nat.min_eq_left h]
       · rw [Nat.min_eq_right (by omega), List.take_of_length_le (Nat.le_refl _), List.take_of_length_le (by omega)])
@[simp] theorem cutD_m1 {α : Type} (l : List α) : cutD l none (some (-1)) = l.dropLast := by
  unfold cutD
  have e : HT.sIx l.length l.length (some (-1)) = l.length - 1 := by
    unfold HT.sIx; simp
    first | omega | (split <;> omega)
  rw [sIx_none, e]
  simp [List.dropLast_eq_take]
end SX
end
section
set_option Elab.async false
set_option linter.all false
set_option maxRecDepth 100000
set_option maxHeartbeats 4000000
/-! VP1: instructions as data. -/
namespace SX
open PySem
def fitK (k : Str) (v : Int) : Bool := if k = "r" then decide (0 ≤ v) && decide (v ≤ 7) else if k = "f" then decide (0 ≤ v) && decide (v ≤ 3) else if k = "p" then decide (-40 ≤ v) && decide (v ≤ 40) else if k = "t" then decide (0 ≤ v) && decide (v ≤ 200) else true
def forms : List (Str × Str) := [("set", "ri"), ("add", "rrr"), ("sub", "rrr"), ("move", "rrp"), ("pick", "rfrr"), ("less", "frr"), ("same", "frr"), ("jump", "ft"), ("goto", "t")]
def one (c : Nat) : Str := ⟨#[c]⟩
def formsD : List (Str × D) := forms.map fun p => (p.1, .str p.2)
def insD (w : Str) (vs : List Int) : D := .tup (.str w :: vs.map .int)
def kinds (f : Str) : List Str := f.cps.toList.map one
theorem kinds_len (f : Str) : (kinds f).length = f.length := by
  unfold kinds Str.length
  rw [List.length_map, Array.length_toList]
theorem its_kinds (f : Str) : (f.cps.toList.map fun c => D.str ⟨#[c]⟩) = (kinds f).map .str := by
  unfold kinds
  rw [List.map_map]
  rfl
theorem lookup_map {w : Str} : ∀ {l : List (Str × Str)}, (l.map fun p => (p.1, D.str p.2)).lookup w = (l.lookup w).map .str
  | [] => rfl
  | (a, b) :: r => by
    rw [List.map_cons, List.lookup_cons, List.lookup_cons]
    cases (w == a) with
    | true => rfl
    | false => exact lookup_map
theorem lookup_in' {w f : Str} : ∀ {l : List (Str × Str)}, l.lookup w = some f → (w, f) ∈ l
  | [], h => by cases h
  | (a, b) :: r, h => by
    rw [List.lookup_cons] at h
    cases q : (w == a) with
    | true =>
      rw [q] at h
      cases h
      rw [eq_of_beq q]
      exact List.mem_cons_self
    | false =>
      rw [q] at h
      exact List.mem_cons_of_mem _ (lookup_in' h)
theorem forms_all {w f : Str} (h : forms.lookup w = some f) {p : Str × Str → Bool} (hp : forms.all p = true) : p (w, f) = true := List.all_eq_true.mp hp _ (lookup_in' h)
theorem strOk_one {f : Str} (h : PyData.strOk f = true) {k : Str} (hk : k ∈ kinds f) : PyData.strOk k = true := by
  unfold kinds at hk
  obtain ⟨c, hc, rfl⟩ := List.mem_map.mp hk
  unfold PyData.strOk at h ⊢
  rw [← Array.all_toList] at h ⊢
  have := List.all_eq_true.mp h c hc
  simpa [one] using this
theorem toPs_ints : ∀ l : List Int, D.toPs (l.map .int) = some (l.map .int)
  | [] => rfl
  | a :: l => by
    show (match D.toP (.int a), D.toPs (l.map .int) with | some x, some xs => some (x :: xs) | _, _ => none) = _
    rw [toPs_ints l]; rfl
theorem toP_ins (w : Str) (vs : List Int) : D.toP (insD w vs) = some (.tuple (.str w :: vs.map .int)) := by
  show (match D.toP (.str w), D.toPs (vs.map .int) with | some x, some xs => some (x :: xs) | _, _ => none).map PyData.tuple = _
  rw [toPs_ints]; rfl
theorem lay_ints : ∀ l : List Int, PyData.canLayAll0 (l.map .int) = true
  | [] => rfl
  | a :: l => by show (true && PyData.canLayAll0 (l.map .int)) = true; rw [lay_ints l]; rfl
theorem depth_ints : ∀ l : List Int, PyData.depthAll (l.map .int) ≤ 1
  | [] => by simp [PyData.depthAll]
  | a :: l => by
    have := depth_ints l
    simp [PyData.depthAll, PyData.depth] at this ⊢; omega
theorem eq_tup0 {w : Str} {vs : List Int} (hw : PyData.strOk w = true) : eqP (insD w vs) (.tup []) = some false := by
  unfold eqP
  rw [toP_ins]
  show (if SeqAt.shaped (.tuple (.str w :: vs.map .int)) && SeqAt.shaped (.tuple []) then some (PyData.eqv _ _) else none) = _
  rw [if_pos]
  · simp [PyData.eqv, PyData.eqvAll]
  · have := depth_ints vs
    simp [SeqAt.shaped, PyData.canLay0, PyData.canLayAll0, PyData.depth, PyData.depthAll, hw, lay_ints]
    omega
@[simp] theorem cmp_tup0 {w : Str} {vs : List Int} (hw : PyData.strOk w = true) : cmpD .eq (.tup (.str w :: vs.map .int)) (.tup []) = some false := eq_tup0 (w := w) (vs := vs) hw
@[simp] theorem blsD_map {α : Type} (g : α → Bool) : ∀ l : List α, blsD (l.map fun p => D.bl (g p)) = some (l.map g)
  | [] => rfl
  | a :: l => by
    show (blsD (l.map fun p => D.bl (g p))).map (g a :: ·) = _
    rw [blsD_map g l]; rfl
@[simp] theorem blsD_nil : blsD [] = some [] := rfl
@[simp] theorem blsD_cons (b : Bool) (l : List D) : blsD (.bl b :: l) = (blsD l).map (b :: ·) := rfl
theorem forms_ok {w f : Str} (h : forms.lookup w = some f) : PyData.strOk w = true ∧ PyData.strOk f = true ∧ f.length < 100 ∧ 0 < f.length := by
  have := forms_all h (p := fun p => PyData.strOk p.1 && (PyData.strOk p.2 && (decide (p.2.length < 100) && decide (0 < p.2.length)))) (by decide +kernel)
  simpa using this
def jmp (w : Str) : Bool := decide (w = "jump") || decide (w = "goto")
theorem in_jmp {w : Str} (hw : PyData.strOk w = true) : inP (.str w) [.str "jump", .str "goto"] = some (jmp w) := by
  unfold inP
  show (if SeqAt.shaped (.str w) && SeqAt.shaped (.list [.str "jump", .str "goto"]) then some ([PyData.str "jump", PyData.str "goto"].any fun y => PyData.eqv y (.str w)) else none) = _
  have hs : (SeqAt.shaped (.str w) && SeqAt.shaped (.list [.str "jump", .str "goto"])) = true := by
    simp [SeqAt.shaped, PyData.canLay0, PyData.canLayAll0, PyData.depth, PyData.depthAll, hw]
  rw [if_pos hs]
  have e : ∀ x : Str, (x == w) = decide (w = x) := fun x => by
    by_cases q : w = x
    · rw [q]; simp
    · rw [decide_eq_false q]; exact beq_eq_false_iff_ne.mpr fun z => q z.symm
  simp [PyData.eqv, jmp, e]
theorem in_rf {w : Str} (hw : PyData.strOk w = true) : inP (.str w) [.str "r", .str "f"] = some (decide (w = "r") || decide (w = "f")) := by
  unfold inP
  show (if SeqAt.shaped (.str w) && SeqAt.shaped (.list [.str "r", .str "f"]) then some ([PyData.str "r", PyData.str "f"].any fun y => PyData.eqv y (.str w)) else none) = _
  have hs : (SeqAt.shaped (.str w) && SeqAt.shaped (.list [.str "r", .str "f"])) = true := by
    simp [SeqAt.shaped, PyData.canLay0, PyData.canLayAll0, PyData.depth, PyData.depthAll, hw]
  rw [if_pos hs]
  have e : ∀ x : Str, (x == w) = decide (w = x) := fun x => by
    by_cases q : w = x
    · rw [q]; simp
    · rw [decide_eq_false q]; exact beq_eq_false_iff_ne.mpr fun z => q z.symm
  simp [PyData.eqv, e]
@[simp] theorem cmp_in_jmp {w : Str} (hw : PyData.strOk w = true) : cmpD .isin (.str w) (.tup [.str "jump", .str "goto"]) = some (jmp w) := by
  show (if D.flat (.str w) && [D.str "jump", .str "goto"].all D.flat then inP (.str w) [.str "jump", .str "goto"] else none) = _
  exact (if_pos rfl).trans (in_jmp hw)
@[simp] theorem cmp_nin_jmp {w : Str} (hw : PyData.strOk w = true) : cmpD .notin (.str w) (.tup [.str "jump", .str "goto"]) = some (!jmp w) := by
  show (if D.flat (.str w) && [D.str "jump", .str "goto"].all D.flat then negO true (inP (.str w) [.str "jump", .str "goto"]) else none) = _
  refine (if_pos rfl).trans ?_
  rw [in_jmp hw]
  rfl
@[simp] theorem cmp_in_rf {w : Str} (hw : PyData.strOk w = true) : cmpD .isin (.str w) (.tup [.str "r", .str "f"]) = some (decide (w = "r") || decide (w = "f")) := by
  show (if D.flat (.str w) && [D.str "r", .str "f"].all D.flat then inP (.str w) [.str "r", .str "f"] else none) = _
  exact (if_pos rfl).trans (in_rf hw)
@[simp] theorem isTy_tup (l : List D) : isTys [.tuple] (.tup l) = some true := rfl
@[simp] theorem isTy_lt (l : List D) : isTys [.list, .tuple] (.tup l) = some true := rfl
@[simp] theorem isTy_ll (l : List D) : isTys [.list, .tuple] (.lst l) = some true := rfl
@[simp] theorem isTy_str (l : Str) : isTys [.str] (.str l) = some true := rfl
@[simp] theorem isTy_int (l : Int) : isTys [.int] (.int l) = some true := rfl
@[simp] theorem isTy_bool (l : Int) : isTys [.bool] (.int l) = some false := rfl
@[simp] theorem isTy_obj (c d : Nat) (l : List D) : isTys [.cls c] (.obj d l) = if c == d then some true else some false := by
  show (match some (c == d) with
    | some true => some true
    | some false => isTys [] _
    | none => none) = _
  cases c == d <;> rfl
end SX
end
section
set_option Elab.async false
set_option linter.all false
set_option maxRecDepth 100000
set_option maxHeartbeats 4000000
/-! VP2: equality of data by what it stands for. -/
namespace SX
open PySem
theorem eqP_refl {a : D} {x : PyData} (h : a.toP = some x) (hs : SeqAt.shaped x = true) : eqP a a = some true := by
  unfold eqP
  rw [h]
  show (if SeqAt.shaped x && SeqAt.shaped x then some (PyData.eqv x x) else none) = _
  have hc : x.canLay0 = true := by
    unfold SeqAt.shaped at hs
    rw [Bool.and_eq_true] at hs
    exact hs.1
  rw [hs, SeqAt.eqv_refl x hc]
  rfl
structure Enc {α : Type} [DecidableEq α] (n : Nat) (P : α → Prop) (f : α → D) : Prop where
  lay : ∀ a, P a → ∃ x, (f a).toP = some x ∧ x.canLay0 = true ∧ x.depth ≤ n
  eq : ∀ a b x y, P a → P b → (f a).toP = some x → (f b).toP = some y → x.eqv y = decide (a = b)
section
variable {α β : Type} [DecidableEq α] [DecidableEq β] {n : Nat} {P : α → Prop} {f : α → D}
theorem Enc.eqP (e : Enc n P f) (hn : n ≤ 64) {a b : α} (ha : P a) (hb : P b) : eqP (f a) (f b) = some (decide (a = b)) := by
  obtain ⟨x, hx, cx, dx⟩ := e.lay a ha
  obtain ⟨y, hy, cy, dy⟩ := e.lay b hb
  unfold SX.eqP
  rw [hx, hy]
  show (if SeqAt.shaped x && SeqAt.shaped y then some (PyData.eqv x y) else none) = _
  have hs : (SeqAt.shaped x && SeqAt.shaped y) = true := by
    unfold SeqAt.shaped
    rw [cx, cy, decide_eq_true (by omega : x.depth ≤ 64), decide_eq_true (by omega : y.depth ≤ 64)]
    rfl
  rw [if_pos hs, e.eq a b x y ha hb hx hy]
theorem Enc.mono (e : Enc n P f) {m : Nat} (h : n ≤ m) {Q : α → Prop} (hq : ∀ a, Q a → P a) : Enc m Q f :=
  ⟨fun a ha => by
    obtain ⟨x, h1, h2, h3⟩ := e.lay a (hq a ha)
    exact ⟨x, h1, h2, by omega⟩, fun a b x y ha hb => e.eq a b x y (hq a ha) (hq b hb)⟩
theorem Enc.int : Enc 0 (fun _ => True) D.int := ⟨fun a _ => ⟨.int a, rfl, rfl, Nat.le_refl _⟩, fun a b x y _ _ hx hy => by cases hx; cases hy; rfl⟩
theorem Enc.bl : Enc 0 (fun _ => True) D.bl := ⟨fun a _ => ⟨.bool a, rfl, rfl, Nat.le_refl _⟩, fun a b x y _ _ hx hy => by cases hx; cases hy; show (a == b) = _; cases a <;> cases b <;> rfl⟩
theorem Enc.str : Enc 0 (fun s => PyData.strOk s = true) D.str := ⟨fun a h => ⟨.str a, rfl, h, Nat.le_refl _⟩, fun a b x y _ _ hx hy => by cases hx; cases hy; rfl⟩
theorem Enc.all (e : Enc n P f) : ∀ (l : List α), (∀ a ∈ l, P a) → ∃ xs, D.toPs (l.map f) = some xs ∧ PyData.canLayAll0 xs = true ∧ PyData.depthAll xs ≤ n
  | [], _ => ⟨[], rfl, rfl, Nat.zero_le _⟩
  | a :: l, h => by
    obtain ⟨x, h1, h2, h3⟩ := e.lay a (h a List.mem_cons_self)
    obtain ⟨xs, g1, g2, g3⟩ := e.all l fun b hb => h b (List.mem_cons_of_mem _ hb)
    refine ⟨x :: xs, ?_, ?_, ?_⟩
    · show (match D.toP (f a), D.toPs (l.map f) with | some x, some xs => some (x :: xs) | _, _ => none) = _
      rw [h1, g1]
    · show (x.canLay0 && PyData.canLayAll0 xs) = true
      rw [h2, g2]; rfl
    · show max x.depth (PyData.depthAll xs) ≤ n
      omega
theorem Enc.eqAll (e : Enc n P f) : ∀ (l k : List α) (xs ys : List PyData), (∀ a ∈ l, P a) → (∀ a ∈ k, P a) → D.toPs (l.map f) = some xs → D.toPs (k.map f) = some ys → PyData.eqvAll xs ys = decide (l = k)
  | [], [], xs, ys, _, _, hx, hy => by cases hx; cases hy; rfl
  | [], b :: k, xs, ys, _, hk, hx, hy => by
    obtain ⟨y, h1, h2, h3⟩ := e.lay b (hk b List.mem_cons_self)
    obtain ⟨zs, g1, g2, g3⟩ := e.all k fun b hb => hk b (List.mem_cons_of_mem _ hb)
    have hy : (match D.toP (f b), D.toPs (k.map f) with | some x, some xs => some (x :: xs) | _, _ => none) = some ys := hy
    rw [h1, g1] at hy
    cases hx; cases hy
    rfl
  | a :: l, [], xs, ys, hl, _, hx, hy => by
    obtain ⟨y, h1, h2, h3⟩ := e.lay a (hl a List.mem_cons_self)
    obtain ⟨zs, g1, g2, g3⟩ := e.all l fun b hb => hl b (List.mem_cons_of_mem _ hb)
    have hx : (match D.toP (f a), D.toPs (l.map f) with | some x, some xs => some (x :: xs) | _, _ => none) = some xs := hx
    rw [h1, g1] at hx
    cases hx; cases hy
    rfl
  | a :: l, b :: k, xs, ys, hl, hk, hx, hy => by
    obtain ⟨x, h1, h2, h3⟩ := e.lay a (hl a List.mem_cons_self)
    obtain ⟨us, g1, g2, g3⟩ := e.all l fun b hb => hl b (List.mem_cons_of_mem _ hb)
    obtain ⟨y, i1, i2, i3⟩ := e.lay b (hk b List.mem_cons_self)
    obtain ⟨zs, j1, j2, j3⟩ := e.all k fun b hb => hk b (List.mem_cons_of_mem _ hb)
    have hx : (match D.toP (f a), D.toPs (l.map f) with | some x, some xs => some (x :: xs) | _, _ => none) = some xs := hx
    have hy : (match D.toP (f b), D.toPs (k.map f) with | some x, some xs => some (x :: xs) | _, _ => none) = some ys := hy
    rw [h1, g1] at hx
    rw [i1, j1] at hy
    cases hx; cases hy
    rw [PyData.eqvAll, e.eq a b x y (hl a List.mem_cons_self) (hk b List.mem_cons_self) h1 i1, e.eqAll l k us zs (fun b hb => hl b (List.mem_cons_of_mem _ hb)) (fun b hb => hk b (List.mem_cons_of_mem _ hb)) g1 j1]
    by_cases p : a = b <;> by_cases q : l = k <;> simp [p, q]
theorem Enc.tup (e : Enc n P f) : Enc (n + 1) (fun l : List α => ∀ a ∈ l, P a) (fun l => .tup (l.map f)) := ⟨fun l h => by
    obtain ⟨xs, g1, g2, g3⟩ := e.all l h
    refine ⟨.tuple xs, ?_, g2, ?_⟩
    · show (D.toPs (l.map f)).map PyData.tuple = _
      rw [g1]; rfl
    · show PyData.depthAll xs + 1 ≤ n + 1
      omega, fun l k x y hl hk hx hy => by
    obtain ⟨xs, g1, g2, g3⟩ := e.all l hl
    obtain ⟨ys, j1, j2, j3⟩ := e.all k hk
    have hx : (D.toPs (l.map f)).map PyData.tuple = some x := hx
    have hy : (D.toPs (k.map f)).map PyData.tuple = some y := hy
    rw [g1] at hx
    rw [j1] at hy
    cases hx; cases hy
    rw [PyData.eqv]
    exact e.eqAll l k xs ys hl hk g1 j1⟩
theorem Enc.lst (e : Enc n P f) : Enc (n + 1) (fun l : List α => ∀ a ∈ l, P a) (fun l => .lst (l.map f)) := ⟨fun l h => by
    obtain ⟨xs, g1, g2, g3⟩ := e.all l h
    refine ⟨.list xs, ?_, g2, ?_⟩
    · show (D.toPs (l.map f)).map PyData.list = _
      rw [g1]; rfl
    · show PyData.depthAll xs + 1 ≤ n + 1
      omega, fun l k x y hl hk hx hy => by
    obtain ⟨xs, g1, g2, g3⟩ := e.all l hl
    obtain ⟨ys, j1, j2, j3⟩ := e.all k hk
    have hx : (D.toPs (l.map f)).map PyData.list = some x := hx
    have hy : (D.toPs (k.map f)).map PyData.list = some y := hy
    rw [g1] at hx
    rw [j1] at hy
    cases hx; cases hy
    rw [PyData.eqv]
    exact e.eqAll l k xs ys hl hk g1 j1⟩
/-- a head of one kind before things of another -/
theorem Enc.consT {m : Nat} {Q : β → Prop} {g : β → D} (e : Enc n P f) (d : Enc m Q g) : Enc (max n m + 1) (fun p : α × List β => P p.1 ∧ ∀ b ∈ p.2, Q b) (fun p => .tup (f p.1 :: p.2.map g)) := ⟨fun p h => by
    obtain ⟨x, h1, h2, h3⟩ := e.lay p.1 h.1
    obtain ⟨xs, g1, g2, g3⟩ := d.all p.2 h.2
    refine ⟨.tuple (x :: xs), ?_, ?_, ?_⟩
    · show (match D.toP (f p.1), D.toPs (p.2.map g) with | some x, some xs => some (x :: xs) | _, _ => none).map PyData.tuple = _
      rw [h1, g1]; rfl
    · show (x.canLay0 && PyData.canLayAll0 xs) = true
      rw [h2, g2]; rfl
    · show max x.depth (PyData.depthAll xs) + 1 ≤ _
      omega, fun p q x y hp hq hx hy => by
    obtain ⟨a, h1, h2, h3⟩ := e.lay p.1 hp.1
    obtain ⟨xs, g1, g2, g3⟩ := d.all p.2 hp.2
    obtain ⟨b, i1, i2, i3⟩ := e.lay q.1 hq.1
    obtain ⟨ys, j1, j2, j3⟩ := d.all q.2 hq.2
    have hx : (match D.toP (f p.1), D.toPs (p.2.map g) with | some x, some xs => some (x :: xs) | _, _ => none).map PyData.tuple = some x := hx
    have hy : (match D.toP (f q.1), D.toPs (q.2.map g) with | some x, some xs => some (x :: xs) | _, _ => none).map PyData.tuple = some y := hy
    rw [h1, g1] at hx
    rw [i1, j1] at hy
    cases hx; cases hy
    rw [PyData.eqv, PyData.eqvAll, e.eq _ _ _ _ hp.1 hq.1 h1 i1, d.eqAll _ _ _ _ hp.2 hq.2 g1 j1]
    obtain ⟨p1, p2⟩ := p
    obtain ⟨q1, q2⟩ := q
    by_cases u : p1 = q1 <;> by_cases v : p2 = q2 <;> simp [u, v]⟩
end
abbrev Ins := Str × List Int
def insP (p : Ins) : D := insD p.1 p.2
theorem Enc.ins : Enc 1 (fun p : Ins => PyData.strOk p.1 = true) insP := (Enc.consT Enc.str Enc.int).mono (Nat.le_refl _) fun p h => ⟨h, fun _ _ => trivial⟩
theorem eqP_prog {xs ys : List Ins} (hx : ∀ p ∈ xs, PyData.strOk p.1 = true) (hy : ∀ p ∈ ys, PyData.strOk p.1 = true) : eqP (.tup (xs.map insP)) (.tup (ys.map insP)) = some (decide (xs = ys)) := Enc.ins.tup.eqP (by decide) hx hy
end SX
end
section
set_option Elab.async false
set_option linter.all false
set_option maxRecDepth 100000
set_option maxHeartbeats 4000000
/-! VP3: words and numbers of texts. -/
namespace TX
open PySem SX
abbrev tl (x : Str) : List Nat := x.cps.toList
abbrev mk (l : List Nat) : Str := ⟨l.toArray⟩
theorem mk_tl (x : Str) : mk (tl x) = x := TL.mk_tl x
theorem mk_inj {a b : List Nat} (h : mk a = mk b) : a = b := congrArg (fun x : Str => x.cps.toList) h
@[simp] theorem mk_eq (a b : List Nat) : (mk a = mk b) = (a = b) := propext ⟨mk_inj, fun h => by rw [h]⟩
@[simp] theorem tl_mk (a : List Nat) : tl (mk a) = a := rfl
@[simp] theorem len_mk (a : List Nat) : (mk a).length = a.length := by simp [Str.length]
theorem len_tl (x : Str) : x.length = (tl x).length := TL.len_tl x
theorem ext {x y : Str} (h : tl x = tl y) : x = y := TL.ext_tl h
@[simp] theorem mk_app (a b : List Nat) : mk a ++ mk b = mk (a ++ b) := TL.ext_tl (TL.tl_append (mk a) (mk b))
theorem tl_app (a b : Str) : tl (a ++ b) = tl a ++ tl b := TL.tl_append a b
def okc (l : List Nat) : Bool := l.all fun c => decide (c < 0x110000)
@[simp] theorem ok_mk (a : List Nat) : PyData.strOk (mk a) = okc a := by
  unfold PyData.strOk okc
  rw [← Array.all_toList]
theorem ok_tl (s : Str) : PyData.strOk s = okc (tl s) := by
  unfold PyData.strOk okc
  rw [← Array.all_toList]
@[simp] theorem okc_nil : okc [] = true := rfl
@[simp] theorem okc_cons (c : Nat) (l : List Nat) : okc (c :: l) = (decide (c < 0x110000) && okc l) := rfl
theorem okc_app (a b : List Nat) : okc (a ++ b) = (okc a && okc b) := by unfold okc; rw [List.all_append]
@[simp] theorem cutS_mk (a : List Nat) (lo hi : Option Int) : L2.cutS (mk a) lo hi = mk (cutD a lo hi) := by
  unfold L2.cutS cutD
  have e : (mk a).length = a.length := len_mk a
  rw [e]
theorem cutS_tl (z : Str) (lo hi : Option Int) : tl (L2.cutS z lo hi) = cutD (tl z) lo hi := by
  have := cutS_mk (tl z) lo hi
  rw [mk_tl] at this
  rw [this]
theorem sw_mk (a b : List Nat) : Txt.startswith (mk a) (mk b) = (decide (b.length ≤ a.length) && (a.take b.length == b)) := by
  unfold Txt.startswith
  rw [StrLaws.subAt_eq, len_mk, len_mk, Nat.zero_add, List.drop_zero]
@[simp] theorem sw_one (a : List Nat) (c : Nat) : Txt.startswith (mk a) (mk [c]) = decide (a.head? = some c) := by
  rw [sw_mk]
  cases a with
  | nil => rfl
  | cons x a =>
    simp
    rw [Bool.eq_iff_iff]
    simp
theorem ew_mk (a b : List Nat) : Txt.endswith (mk a) (mk b) = (decide (b.length ≤ a.length) && (a.drop (a.length - b.length) == b)) := by
  unfold Txt.endswith
  rw [StrLaws.subAt_eq, len_mk, len_mk, Nat.zero_add]
  by_cases h : b.length ≤ a.length
  · have hd : (tl (mk a)).length = a.length := rfl
    rw [List.take_of_length_le (by rw [List.length_drop]; show (tl (mk a)).length - _ ≤ _; rw [hd]; omega)]
  · rw [decide_eq_false h]; rfl
@[simp] theorem ew_one (a : List Nat) (c : Nat) : Txt.endswith (mk a) (mk [c]) = decide (a.getLast? = some c) := by
  rw [ew_mk]
  rcases List.eq_nil_or_concat a with rfl | ⟨l, x, rfl⟩
  · rfl
  · simp
    rw [Bool.eq_iff_iff]
    simp
@[simp] theorem sign_one (c : Nat) (b : Str) : signIn (mk [c]) b = some (decide (c ∈ tl b)) := rfl
@[simp] theorem cmp_sign (c : Nat) (b : Str) : cmpD .isin (.str (mk [c])) (.str b) = some (decide (c ∈ tl b)) := rfl
@[simp] theorem cmp_nsign (c : Nat) (b : Str) : cmpD .notin (.str (mk [c])) (.str b) = some (!decide (c ∈ tl b)) := rfl
/-! split and join -/
theorem split_mk (a : List Nat) (c : Nat) (hc : c < 256) : Txt.split (mk a) (mk [c]) = (TL.spl [c] 0 [] a).map mk := by
  refine TL.map_tl_inj ?_
  rw [TL.split_spl (mk a) (mk [c]) (by simp) (TL.kind_ok (by simp [hc]))]
  rw [List.map_map]
  show TL.spl [c] 0 [] a = _
  simp [Function.comp_def]
theorem join_mk (a : List Nat) (ys : List (List Nat)) : Txt.join (mk a) (ys.map mk) = mk (TL.joinL a ys) := by
  rw [TL.join_eq]
  refine ext ((TL.tl_join _ _).trans ?_)
  rw [List.map_map]
  show TL.joinL a (ys.map (tl ∘ mk)) = TL.joinL a ys
  simp [Function.comp_def]
/-! numbers -/
def isDig (c : Nat) : Bool := decide (48 ≤ c) && decide (c ≤ 57)
/-- the signs of an integer -/
def intL (z : Int) : List Nat := if z < 0 then 45 :: TL.numL (-z).toNat else TL.numL z.toNat
theorem str_int (z : Int) : ((toString z : String) : Str) = mk (intL z) := by
  refine ext ?_
  unfold intL
  cases z with
  | ofNat n =>
    have h : ¬ (Int.ofNat n < 0) := by simp
    rw [if_neg h]
    exact TL.tl_num n
  | negSucc n =>
    have h : Int.negSucc n < 0 := Int.negSucc_lt_zero n
    rw [if_pos h]
    have e : (toString (Int.negSucc n) : String) = "-" ++ toString ((n + 1 : Nat) : Int) := rfl
    rw [e]
    show tl (Str.ofString ("-" ++ toString ((n + 1 : Nat) : Int))) = 45 :: TL.numL (-(Int.negSucc n)).toNat
    have e2 : (-(Int.negSucc n)).toNat = n + 1 := by omega
    rw [e2]
    have t := TL.tl_num (n + 1)
    show (Str.ofString _).cps.toList = _
    rw [ofS_cps, String.toList_append, List.map_append]
    have t2 : (toString ((n + 1 : Nat) : Int)).toList.map Char.toNat = TL.numL (n + 1) := by
      rw [← ofS_cps]; exact t
    rw [t2]
    rfl
@[simp] theorem str_repr (z : Int) : Str.ofString z.repr = mk (intL z) := str_int z
theorem numL_dig (n : Nat) : (TL.numL n).all isDig = true := List.all_eq_true.mpr fun c hc => by
  have := TL.numL_digits n c hc
  unfold isDig
  simp
  exact this
theorem numL_pos (n : Nat) : 0 < (TL.numL n).length := List.length_pos_iff.mpr (TL.numL_ne n)
theorem numL_head : ∀ n : Nat, (TL.numL n).head? = some 48 → n = 0 := fun n => by
  induction n using Nat.strongRecOn with
  | _ n ih =>
    intro h
    by_cases q : n < 10
    · rw [TL.numL_lt q] at h
      simp at h
      omega
    · rw [TL.numL_step (by omega)] at h
      rw [List.head?_append] at h
      have := TL.numL_ne (n / 10)
      cases e : (TL.numL (n / 10)).head? with
      | none => exact absurd (List.head?_eq_none_iff.mp e) this
      | some c =>
        rw [e] at h
        simp at h
        subst h
        have := ih (n / 10) (by omega) e
        omega
theorem numL_zero : TL.numL 0 = [48] := rfl
/-- the count that signs represent -/
def pCount (l : List Nat) : Option Nat := if 1 ≤ l.length ∧ l.length ≤ 200 ∧ l.all isDig = true ∧ (l = [48] ∨ l.head? ≠ some 48) then some (NumText.digitsVal l) else none
theorem pCount_num {n : Nat} (h : (TL.numL n).length ≤ 200) : pCount (TL.numL n) = some n := by
  unfold pCount
  rw [if_pos, TL.numL_val]
  refine ⟨numL_pos n, h, numL_dig n, ?_⟩
  by_cases q : (TL.numL n).head? = some 48
  · have := numL_head n q
    subst this
    exact .inl rfl
  · exact .inr q
def pInt (l : List Nat) : Option Int := if l.head? = some 45 then (match pCount l.tail with
    | none => none
    | some n => if n = 0 then none else some (-(n : Int))) else (pCount l).map Int.ofNat
theorem pInt_int {z : Int} (h : (TL.numL z.natAbs).length ≤ 200) : pInt (intL z) = some z := by
  unfold pInt intL
  by_cases q : z < 0
  · rw [if_pos q]
    have e : (-z).toNat = z.natAbs := by omega
    refine (if_pos rfl).trans ?_
    rw [List.tail_cons, e, pCount_num h]
    dsimp only
    rw [if_neg (by omega)]
    congr 1
    omega
  · rw [if_neg q]
    have e : z.toNat = z.natAbs := by omega
    have hd : (TL.numL z.toNat).head? ≠ some 45 := fun hh => by
      have := numL_dig z.toNat
      cases e2 : TL.numL z.toNat with
      | nil => exact TL.numL_ne _ e2
      | cons c r =>
        rw [e2] at hh this
        simp at hh
        subst hh
        simp [isDig] at this
    rw [if_neg hd, e, pCount_num h]
    show some (Int.ofNat z.natAbs) = some z
    congr 1
    show ((z.natAbs : Nat) : Int) = z
    omega
theorem numL_len200 {n : Nat} (h : n < 10 ^ 200) : (TL.numL n).length ≤ 200 := TL.numL_len (by decide) h
theorem ints_text {l : List Nat} (h : l.all isDig = true) (hne : l ≠ []) (hl : l.length ≤ 640) : PySem.intText? (mk l) = some ((NumText.digitsVal l : Nat) : Int) := by
  have e := intText_digits (x := mk l) (fun c hc => by
    have := List.all_eq_true.mp h c hc
    unfold isDig at this
    simp at this
    exact this) hne (by rw [len_mk]; omega)
  exact e
theorem dig_cps : (Str.ofString "0123456789").cps.toList = [48, 49, 50, 51, 52, 53, 54, 55, 56, 57] := by decide +kernel
@[simp] theorem dig_in (c : Nat) : decide (c ∈ tl (Str.ofString "0123456789")) = isDig c := by
  show decide (c ∈ (Str.ofString "0123456789").cps.toList) = _
  rw [dig_cps]
  unfold isDig
  rw [Bool.eq_iff_iff]
  simp
  omega
@[simp] theorem dig_inA (c : Nat) : (c ∈ (Str.ofString "0123456789").cps) ↔ isDig c = true := by
  have := dig_in c
  rw [← Array.mem_toList_iff]
  show c ∈ tl (Str.ofString "0123456789") ↔ _
  rw [← this]
  simp
def isLet (c : Nat) : Bool := decide (97 ≤ c) && decide (c ≤ 122)
theorem let_cps : (Str.ofString "abcdefghijklmnopqrstuvwxyz").cps.toList = [97, 98, 99, 100, 101, 102, 103, 104, 105, 106, 107, 108, 109, 110, 111, 112, 113, 114, 115, 116, 117, 118, 119, 120, 121, 122] := by decide +kernel
@[simp] theorem let_in (c : Nat) : decide (c ∈ tl (Str.ofString "abcdefghijklmnopqrstuvwxyz")) = isLet c := by
  show decide (c ∈ (Str.ofString "abcdefghijklmnopqrstuvwxyz").cps.toList) = _
  rw [let_cps]
  unfold isLet
  rw [Bool.eq_iff_iff]
  simp
  omega
@[simp] theorem let_inA (c : Nat) : (c ∈ (Str.ofString "abcdefghijklmnopqrstuvwxyz").cps) ↔ isLet c = true := by
  have := let_in c
  rw [← Array.mem_toList_iff]
  show c ∈ tl (Str.ofString "abcdefghijklmnopqrstuvwxyz") ↔ _
  rw [← this]
  simp
theorem lit_zero : Str.ofString "0" = mk [48] := by decide +kernel
theorem lit_dash : Str.ofString "-" = mk [45] := by decide +kernel
theorem lit_space : Str.ofString " " = mk [32] := by decide +kernel
theorem lit_nl : Str.ofString "\n" = mk [10] := by decide +kernel
theorem lit_colon : Str.ofString ":" = mk [58] := by decide +kernel
theorem lit_r : Str.ofString "r" = mk [114] := by decide +kernel
theorem lit_f : Str.ofString "f" = mk [102] := by decide +kernel
theorem lit_empty : Str.ofString "" = mk [] := by decide +kernel
/-- a number or None -/
def optN : Option Nat → D
  | some n => .int n
  | none => .non
def optI : Option Int → D
  | some n => .int n
  | none => .non
@[simp] theorem optN_some (n : Nat) : optN (some n) = .int n := rfl
@[simp] theorem optN_none : optN none = .non := rfl
@[simp] theorem optI_some (n : Int) : optI (some n) = .int n := rfl
@[simp] theorem optI_none : optI none = .non := rfl
theorem okc_tail {l : List Nat} (h : okc l = true) : okc l.tail = true := List.all_eq_true.mpr fun c hc => List.all_eq_true.mp h c (List.mem_of_mem_tail hc)
theorem okc_dig {l : List Nat} (h : l.all isDig = true) : okc l = true := List.all_eq_true.mpr fun c hc => by
  have := List.all_eq_true.mp h c hc
  unfold isDig at this
  simp at this ⊢
  omega
end TX
end
section
set_option Elab.async false
set_option linter.all false
set_option maxRecDepth 100000
set_option maxHeartbeats 4000000
/-! VP4: instructions as texts. -/
namespace TX
open PySem SX
theorem spl_len (S : List Nat) : ∀ (l acc : List Nat), (TL.spl S 0 acc l).length ≤ l.length + 1 := fun l => by
  induction h : l.length using Nat.strongRecOn generalizing l with
  | _ n ih =>
    intro acc
    cases l with
    | nil => rw [TL.spl_nil]; simp
    | cons c r =>
      subst h
      cases e : TL.pre S (c :: r) with
      | true =>
        rw [TL.spl_hit e, TL.spl_pass]
        have := ih (r.drop (S.length - 1)).length (by simp; omega) (r.drop (S.length - 1)) rfl []
        simp at this ⊢
        omega
      | false =>
        rw [TL.spl_miss e]
        have := ih r.length (by simp) r rfl (acc ++ [c])
        simp at this ⊢
        omega
theorem spl_ne (S : List Nat) : ∀ (l acc : List Nat), TL.spl S 0 acc l ≠ [] := fun l => by
  induction l with
  | nil => intro acc; rw [TL.spl_nil]; simp
  | cons c r ih =>
    intro acc
    cases e : TL.pre S (c :: r) with
    | true => rw [TL.spl_hit e]; simp
    | false => rw [TL.spl_miss e]; exact ih _
theorem spl_mem (S : List Nat) : ∀ (l acc : List Nat), ∀ w ∈ TL.spl S 0 acc l, ∀ c ∈ w, c ∈ acc ∨ c ∈ l := fun l => by
  induction h : l.length using Nat.strongRecOn generalizing l with
  | _ n ih =>
    intro acc w hw c hc
    cases l with
    | nil => rw [TL.spl_nil] at hw; rw [List.mem_singleton.mp hw] at hc; exact .inl hc
    | cons a r =>
      subst h
      cases e : TL.pre S (a :: r) with
      | true =>
        rw [TL.spl_hit e, TL.spl_pass] at hw
        rcases List.mem_cons.mp hw with z | z
        · rw [z] at hc; exact .inl hc
        · rcases ih (r.drop (S.length - 1)).length (by simp; omega) (r.drop (S.length - 1)) rfl [] w z c hc with y | y
          · cases y
          · exact .inr (List.mem_cons_of_mem _ (List.mem_of_mem_drop y))
      | false =>
        rw [TL.spl_miss e] at hw
        rcases ih r.length (by simp) r rfl (acc ++ [a]) w hw c hc with y | y
        · rcases List.mem_append.mp y with y | y
          · exact .inl y
          · rw [List.mem_singleton.mp y]; exact .inr List.mem_cons_self
        · exact .inr (List.mem_cons_of_mem _ y)
theorem spl_okc {S l : List Nat} (h : okc l = true) {w : List Nat} (hw : w ∈ TL.spl S 0 [] l) : okc w = true := List.all_eq_true.mpr fun c hc => by
  rcases spl_mem S l [] w hw c hc with z | z
  · cases z
  · exact List.all_eq_true.mp h c z
theorem spl_wlen (S : List Nat) : ∀ (l acc : List Nat), ∀ w ∈ TL.spl S 0 acc l, w.length ≤ acc.length + l.length := fun l => by
  induction h : l.length using Nat.strongRecOn generalizing l with
  | _ n ih =>
    intro acc w hw
    cases l with
    | nil => rw [TL.spl_nil] at hw; rw [List.mem_singleton.mp hw]; omega
    | cons a r =>
      subst h
      cases e : TL.pre S (a :: r) with
      | true =>
        rw [TL.spl_hit e, TL.spl_pass] at hw
        rcases List.mem_cons.mp hw with z | z
        · rw [z]; omega
        · have := ih (r.drop (S.length - 1)).length (by simp; omega) (r.drop (S.length - 1)) rfl [] w z
          simp at this ⊢
          omega
      | false =>
        rw [TL.spl_miss e] at hw
        have := ih r.length (by simp) r rfl (acc ++ [a]) w hw
        simp at this ⊢
        omega
theorem spl_sum (S : List Nat) : ∀ (l acc : List Nat), ((TL.spl S 0 acc l).map (·.length)).sum ≤ acc.length + l.length := fun l => by
  induction h : l.length using Nat.strongRecOn generalizing l with
  | _ n ih =>
    intro acc
    cases l with
    | nil => rw [TL.spl_nil]; simp
    | cons a r =>
      subst h
      cases e : TL.pre S (a :: r) with
      | true =>
        rw [TL.spl_hit e, TL.spl_pass]
        have := ih (r.drop (S.length - 1)).length (by simp; omega) (r.drop (S.length - 1)) rfl []
        simp at this ⊢
        omega
      | false =>
        rw [TL.spl_miss e]
        have := ih r.length (by simp) r rfl (acc ++ [a])
        simp at this ⊢
        omega
/-- an item as signs -/
def itemL (k : Str) (v : Int) : List Nat := if k = "r" ∨ k = "f" then tl k ++ intL v else intL v
def insL (f : Str) (p : Ins) : List Nat := TL.joinL [32] (tl p.1 :: ((kinds f).zip p.2).map fun q => itemL q.1 q.2)
def formOf (w : Str) : Str := (forms.lookup w).getD Str.empty
def lineL (p : Ins) : List Nat := insL (formOf p.1) p
def textL (l : List Ins) : List Nat := TL.joinL [10] (l.map lineL)
def pItem (k : Str) (l : List Nat) : Option Int := if k = "r" then (if l.head? = some 114 then (pCount l.tail).map Int.ofNat else none) else if k = "f" then (if l.head? = some 102 then (pCount l.tail).map Int.ofNat else none) else pInt l
def allS : List (Option Int) → Option (List Int)
  | [] => some []
  | some x :: l => (allS l).map (x :: ·)
  | none :: _ => none
def insOk (w f : Str) (vs : List Int) : Bool := decide (vs.length = f.length) && ((kinds f).zip vs).all fun p => fitK p.1 p.2
def pIns (l : List Nat) : Option Ins := match TL.spl [32] 0 [] l with
  | [] => none
  | w :: ws => match forms.lookup (mk w) with
    | none => none
    | some f => if f.length = ws.length then (match allS (((kinds f).zip ws).map fun q => pItem q.1 q.2) with
      | none => none
      | some vs => if jmp (mk w) = true then (if 0 ≤ vs.getLast?.getD 0 ∧ insOk (mk w) f (vs.dropLast ++ [0]) = true then some (mk w, vs) else none) else if insOk (mk w) f vs = true then some (mk w, vs) else none) else none
def optP : Option Ins → D
  | some p => insP p
  | none => .non
@[simp] theorem optP_some (p : Ins) : optP (some p) = insP p := rfl
@[simp] theorem optP_none : optP none = .non := rfl
theorem allS_none : ∀ {l : List (Option Int)}, allS l = none → (l.any fun o => o.isNone) = true
  | [], h => by cases h
  | none :: l, _ => rfl
  | some x :: l, h => by
    have h : (allS l).map (x :: ·) = none := h
    rw [List.any_cons, allS_none (l := l) (by cases e : allS l with | none => rfl | some v => rw [e] at h; cases h)]
    rfl
theorem allS_some : ∀ {l : List (Option Int)} {vs : List Int}, allS l = some vs → l = vs.map some
  | [], vs, h => by cases h; rfl
  | none :: l, vs, h => by cases h
  | some x :: l, vs, h => by
    have h : (allS l).map (x :: ·) = some vs := h
    cases e : allS l with
    | none => rw [e] at h; cases h
    | some us =>
      rw [e] at h
      cases h
      rw [allS_some e]
      rfl
theorem log_len {v : Int} (h : SX.strOk v = true) : (intL v).length ≤ 600 := by
  have h1 : v.natAbs.log2 < 1920 := of_decide_eq_true h
  have h2 : v.natAbs < 2 ^ 1920 := by
    rcases Nat.eq_zero_or_pos v.natAbs with z | z
    · rw [z]; exact Nat.two_pow_pos _
    · exact Nat.lt_of_lt_of_le (Nat.lt_log2_self) (Nat.pow_le_pow_right (by decide) h1)
  have h3 : v.natAbs < 10 ^ 599 := Nat.lt_trans h2 (by decide +kernel)
  unfold intL
  split
  · have e : (-v).toNat = v.natAbs := by omega
    rw [e]
    have := TL.numL_len (k := 599) (by decide) h3
    rw [List.length_cons]
    omega
  · have e : v.toNat = v.natAbs := by omega
    rw [e]
    have := TL.numL_len (k := 599) (by decide) h3
    omega
theorem joinL_len (s : List Nat) : ∀ l : List (List Nat), (TL.joinL s l).length ≤ (l.map (·.length)).sum + l.length * s.length
  | [] => by simp [TL.joinL]
  | [a] => by simp [TL.joinL]
  | a :: b :: r => by
    have h := joinL_len s (b :: r)
    have e : (TL.joinL s (a :: b :: r)).length = a.length + (s.length + (TL.joinL s (b :: r)).length) := by
      show (a ++ (s ++ TL.joinL s (b :: r))).length = _
      rw [List.length_append, List.length_append]
    have m : (a :: b :: r).length * s.length = (b :: r).length * s.length + s.length := by rw [List.length_cons, Nat.add_mul, Nat.one_mul]
    rw [e, m, List.map_cons, List.sum_cons]
    omega
theorem sum_le {k : Nat} : ∀ {l : List Nat}, (∀ x ∈ l, x ≤ k) → l.sum ≤ l.length * k
  | [], _ => by simp
  | a :: l, h => by
    have h1 := h a List.mem_cons_self
    have h2 := sum_le (l := l) fun x hx => h x (List.mem_cons_of_mem _ hx)
    rw [List.sum_cons, List.length_cons, Nat.add_mul]
    omega
@[simp] theorem strsD_map : ∀ l : List Str, strsD (l.map .str) = some l
  | [] => rfl
  | s :: l => by
    show (strsD (l.map .str)).map (s :: ·) = _
    rw [strsD_map l]; rfl
@[simp] theorem strsD_cons (s : Str) (l : List D) : strsD (.str s :: l) = (strsD l).map (s :: ·) := rfl
@[simp] theorem strsD_nil : strsD [] = some [] := rfl
theorem join_ev {C : Cx2} {e e' : VE} {s : List Nat} {X : CE} {ys : List (List Nat)} (hX : ev C X e = .ok (.fr (.lst (ys.map fun y => .str (mk y)))) e') (hsz : (ys.map (·.length)).sum + ys.length * s.length ≤ 16777216) : ev C (.bmt .join (.con (.str (mk s))) (.one X .nil)) e = .ok (.fr (.str (mk (TL.joinL s ys)))) e' := by
  have h1 : strsD (ys.map fun y => D.str (mk y)) = some (ys.map mk) := by
    have : (ys.map fun y => D.str (mk y)) = (ys.map mk).map .str := by rw [List.map_map]; rfl
    rw [this, strsD_map]
  have e2 : ((ys.map mk).map (·.length)) = ys.map (·.length) := by
    rw [List.map_map]
    refine List.map_congr_left fun l _ => len_mk l
  have q1 : evD C (.one X .nil) e = .ok [.lst (ys.map fun y => .str (mk y))] e' := by
    rw [d_one, hX]
    rfl
  rw [x_join, bmtR_app, x_con, rb_ok, asFr_fr, ret2_app, rb_ok, bnd2_app, po_kind_join, lift2_some, ret2_app, rb_ok, bnd2_app, q1, rb_ok, bnd2_app, po_join_, h1, Option.bind_some, e2, List.length_map, len_mk]
  have hf : fitB ((ys.map (·.length)).sum + ys.length * s.length) = true := decide_eq_true hsz
  rw [if_pos hf, join_mk]
  rfl
@[simp] theorem sw_r (a : List Nat) : Txt.startswith (mk a) (Str.ofString "r") = decide (a.head? = some 114) := by rw [lit_r, sw_one]
@[simp] theorem sw_f (a : List Nat) : Txt.startswith (mk a) (Str.ofString "f") = decide (a.head? = some 102) := by rw [lit_f, sw_one]
theorem forms_w {w f : Str} (h : forms.lookup w = some f) : w.length < 100 := by
  have := forms_all h (p := fun p => decide (p.1.length < 100)) (by decide +kernel)
  simpa using this
theorem kind_one {k : Str} {f : Str} (h : k ∈ kinds f) : k.length = 1 := by
  unfold kinds at h
  obtain ⟨c, _, rfl⟩ := List.mem_map.mp h
  rfl
theorem itemL_len {k : Str} {v : Int} (hk : k.length = 1) (h : SX.strOk v = true) : (itemL k v).length ≤ 601 := by
  have := log_len h
  unfold itemL
  split
  · rw [List.length_append, ← len_tl, hk]; omega
  · omega
end TX
end
section
set_option Elab.async false
set_option linter.all false
set_option maxRecDepth 100000
set_option maxHeartbeats 4000000
/-! VP5: what is written is read back. -/
namespace TX
open PySem SX
theorem forms_len {w f : Str} (h : forms.lookup w = some f) : f.length ≤ 4 ∧ w.length ≤ 4 ∧ (32 ∉ tl w ∧ 10 ∉ tl w ∧ 58 ∉ tl w) ∧ okc (tl w) = true := by
  have := forms_all h (p := fun p => decide (p.2.length ≤ 4) && (decide (p.1.length ≤ 4) && ((decide (32 ∉ tl p.1) && (decide (10 ∉ tl p.1) && decide (58 ∉ tl p.1))) && okc (tl p.1)))) (by decide +kernel)
  simp only [Bool.and_eq_true, decide_eq_true_eq] at this
  exact this
theorem kinds_in {w f : Str} (h : forms.lookup w = some f) {k : Str} (hk : k ∈ kinds f) : k = "r" ∨ k = "f" ∨ k = "i" ∨ k = "p" ∨ k = "t" := by
  have := forms_all h (p := fun p => (kinds p.2).all fun k => decide (k = "r") || (decide (k = "f") || (decide (k = "i") || (decide (k = "p") || decide (k = "t"))))) (by decide +kernel)
  have := List.all_eq_true.mp this k hk
  simpa using this
/-- signs that are neither a blank nor a line's end -/
def plainC (c : Nat) : Bool := decide (c ≠ 32) && (decide (c ≠ 10) && (decide (c ≠ 58) && decide (c < 0x110000)))
theorem dig_plain {c : Nat} (h : isDig c = true) : plainC c = true := by
  unfold isDig at h
  unfold plainC
  simp at h ⊢
  omega
theorem numL_plain (n : Nat) : (TL.numL n).all plainC = true := List.all_eq_true.mpr fun c hc => dig_plain (List.all_eq_true.mp (numL_dig n) c hc)
theorem intL_plain (v : Int) : (intL v).all plainC = true := by
  unfold intL
  split
  · rw [List.all_cons, numL_plain]; rfl
  · exact numL_plain _
theorem itemL_plain {w f : Str} (h : forms.lookup w = some f) {k : Str} (hk : k ∈ kinds f) (v : Int) : (itemL k v).all plainC = true := by
  unfold itemL
  split
  · rename_i q
    rw [List.all_append, intL_plain, Bool.and_true]
    rcases q with rfl | rfl <;> decide +kernel
  · exact intL_plain v
theorem all_not {l : List Nat} (h : l.all plainC = true) : 32 ∉ l ∧ (10 ∉ l ∧ 58 ∉ l) ∧ okc l = true := by
  refine ⟨fun z => ?_, ⟨fun z => ?_, fun z => ?_⟩, List.all_eq_true.mpr fun c hc => ?_⟩
  · have := List.all_eq_true.mp h 32 z; revert this; decide
  · have := List.all_eq_true.mp h 10 z; revert this; decide
  · have := List.all_eq_true.mp h 58 z; revert this; decide
  · have := List.all_eq_true.mp h c hc
    unfold plainC at this
    simp at this ⊢
    omega
/-- short enough to be read -/
def shortI (v : Int) : Prop := (TL.numL v.natAbs).length ≤ 200
theorem pItem_item {k : Str} {v : Int} (hk : k = "r" ∨ k = "f" ∨ k = "i" ∨ k = "p" ∨ k = "t") (hf : fitK k v = true) (hs : shortI v) : pItem k (itemL k v) = some v := by
  have nn : (k = "r" ∨ k = "f") → 0 ≤ v ∧ pCount (intL v) = some v.toNat := fun q => by
    have h0 : 0 ≤ v := by
      rcases q with rfl | rfl <;> simp [fitK] at hf <;> omega
    refine ⟨h0, ?_⟩
    have e : intL v = TL.numL v.toNat := if_neg (by omega)
    have e2 : v.toNat = v.natAbs := by omega
    rw [e, e2]
    exact pCount_num hs
  by_cases h1 : k = "r"
  · obtain ⟨h0, hc⟩ := nn (.inl h1)
    have e : itemL k v = 114 :: intL v := by
      unfold itemL
      rw [if_pos (Or.inl h1), h1, lit_r]; rfl
    rw [e]
    unfold pItem
    rw [if_pos h1, List.head?_cons, if_pos rfl, List.tail_cons, hc]
    show some (Int.ofNat v.toNat) = some v
    congr 1
    show ((v.toNat : Nat) : Int) = v
    omega
  · by_cases h2 : k = "f"
    · obtain ⟨h0, hc⟩ := nn (.inr h2)
      have e : itemL k v = 102 :: intL v := by
        unfold itemL
        rw [if_pos (Or.inr h2), h2, lit_f]; rfl
      rw [e]
      unfold pItem
      rw [if_neg h1, if_pos h2, List.head?_cons, if_pos rfl, List.tail_cons, hc]
      show some (Int.ofNat v.toNat) = some v
      congr 1
      show ((v.toNat : Nat) : Int) = v
      omega
    · unfold pItem itemL
      rw [if_neg h1, if_neg h2, if_neg (fun z => z.elim h1 h2)]
      exact pInt_int hs
theorem allS_items : ∀ {ks : List Str} {vs : List Int}, (∀ k ∈ ks, k = "r" ∨ k = "f" ∨ k = "i" ∨ k = "p" ∨ k = "t") → ks.length = vs.length → (ks.zip vs).all (fun p => fitK p.1 p.2) = true → (∀ v ∈ vs, shortI v) → allS ((ks.zip ((ks.zip vs).map fun q => itemL q.1 q.2)).map fun q => pItem q.1 q.2) = some vs
  | [], [], _, _, _, _ => rfl
  | [], _ :: _, _, h, _, _ => by cases h
  | _ :: _, [], _, h, _, _ => by cases h
  | k :: ks, v :: vs, hk, hl, hf, hs => by
    rw [List.zip_cons_cons, List.all_cons, Bool.and_eq_true] at hf
    have ih := allS_items (ks := ks) (vs := vs) (fun k h => hk k (List.mem_cons_of_mem _ h)) (by simpa using hl) hf.2 fun v h => hs v (List.mem_cons_of_mem _ h)
    rw [List.zip_cons_cons, List.map_cons, List.zip_cons_cons, List.map_cons]
    rw [pItem_item (hk k List.mem_cons_self) hf.1 (hs v List.mem_cons_self)]
    show (allS _).map (v :: ·) = _
    rw [ih]
    rfl
/-- a line that is written and read -/
structure RdI (p : Ins) : Prop where
  form : ∃ f, forms.lookup p.1 = some f ∧ p.2.length = f.length ∧ ((kinds f).zip p.2).all (fun q => fitK q.1 q.2) = true
  short : ∀ v ∈ p.2, shortI v
theorem jmp_form {w f : Str} (h : forms.lookup w = some f) (hj : jmp w = true) : (w = "jump" ∧ f = "ft") ∨ (w = "goto" ∧ f = "t") := by
  unfold jmp at hj
  simp at hj
  rcases hj with rfl | rfl
  · left
    have e : forms.lookup (Str.ofString "jump") = some (Str.ofString "ft") := by decide +kernel
    rw [e] at h
    cases h
    exact ⟨rfl, rfl⟩
  · right
    have e : forms.lookup (Str.ofString "goto") = some (Str.ofString "t") := by decide +kernel
    rw [e] at h
    cases h
    exact ⟨rfl, rfl⟩
theorem kinds_ft : kinds "ft" = [("f" : Str), ("t" : Str)] := by decide +kernel
theorem kinds_t : kinds "t" = [("t" : Str)] := by decide +kernel
theorem line_eq {p : Ins} {f : Str} (h : forms.lookup p.1 = some f) : lineL p = TL.joinL [32] (tl p.1 :: ((kinds f).zip p.2).map fun q => itemL q.1 q.2) := by
  unfold lineL formOf insL; rw [h]; rfl
theorem line_words {p : Ins} {f : Str} (h : forms.lookup p.1 = some f) : TL.spl [32] 0 [] (lineL p) = tl p.1 :: ((kinds f).zip p.2).map fun q => itemL q.1 q.2 := by
  rw [line_eq h]
  refine TL.spl_join (by simp) fun x hx => ?_
  rcases List.mem_cons.mp hx with z | z
  · rw [z]; exact (forms_len h).2.2.1.1
  · obtain ⟨q, hq, rfl⟩ := List.mem_map.mp z
    exact (all_not (itemL_plain h (List.of_mem_zip hq).1 q.2)).1
theorem pIns_line {p : Ins} (r : RdI p) : pIns (lineL p) = some p := by
  obtain ⟨f, h, hl, hf⟩ := r.form
  unfold pIns
  rw [line_words h]
  have hk : (kinds f).length = p.2.length := by rw [kinds_len, hl]
  dsimp only
  rw [mk_tl, h]
  dsimp only
  have e1 : f.length = (((kinds f).zip p.2).map fun q => itemL q.1 q.2).length := by
    rw [List.length_map, List.length_zip, kinds_len]; omega
  rw [if_pos e1, allS_items (fun k hk => kinds_in h hk) hk hf r.short]
  dsimp only
  have ho : insOk p.1 f p.2 = true := by unfold insOk; rw [decide_eq_true hl, hf]; rfl
  by_cases hj : jmp p.1 = true
  · rw [if_pos hj]
    rcases jmp_form h hj with ⟨e, rfl⟩ | ⟨e, rfl⟩
    · obtain ⟨w, vs⟩ := p
      have hl : vs.length = 2 := hl
      match vs, hl with
      | [a, b], _ =>
        rw [kinds_ft] at hf
        simp [fitK] at hf
        rw [if_pos]
        unfold insOk
        rw [kinds_ft]
        have : (Str.ofString "ft").length = 2 := by decide +kernel
        simp [fitK, this]
        omega
    · obtain ⟨w, vs⟩ := p
      have hl : vs.length = 1 := hl
      match vs, hl with
      | [b], _ =>
        rw [kinds_t] at hf
        simp [fitK] at hf
        rw [if_pos]
        unfold insOk
        rw [kinds_t]
        have : (Str.ofString "t").length = 1 := by decide +kernel
        simp [fitK, this]
        omega
  · rw [if_neg hj, if_pos ho]
theorem line_len {p : Ins} (r : RdI p) : (lineL p).length ≤ 2000 := by
  obtain ⟨f, h, hl, hf⟩ := r.form
  obtain ⟨h4, hw, _, _⟩ := forms_len h
  rw [line_eq h]
  have n : ((kinds f).zip p.2).length ≤ 4 := by rw [List.length_zip, kinds_len]; omega
  have m := sum_le (k := 202) (l := (((kinds f).zip p.2).map fun q => itemL q.1 q.2).map (·.length)) fun x hx => by
    obtain ⟨y, hy, rfl⟩ := List.mem_map.mp hx
    obtain ⟨q, hq, rfl⟩ := List.mem_map.mp hy
    have hm := List.of_mem_zip hq
    have hs : shortI q.2 := r.short _ hm.2
    have hi : (intL q.2).length ≤ 201 := by
      unfold shortI at hs
      unfold intL
      split
      · have e : (-q.2).toNat = q.2.natAbs := by omega
        rw [e, List.length_cons]; omega
      · have e : q.2.toNat = q.2.natAbs := by omega
        rw [e]; omega
    unfold itemL
    split
    · rw [List.length_append, ← len_tl, kind_one hm.1]; omega
    · omega
  have j := joinL_len [32] (tl p.1 :: ((kinds f).zip p.2).map fun q => itemL q.1 q.2)
  rw [List.map_cons, List.sum_cons, List.length_cons, List.length_map, List.length_singleton] at j
  rw [List.length_map, List.length_map] at m
  rw [len_tl] at hw
  omega
theorem joinL_mem (s : List Nat) : ∀ (ls : List (List Nat)) (c : Nat), c ∈ TL.joinL s ls → c ∈ s ∨ ∃ l ∈ ls, c ∈ l
  | [], c, h => by cases h
  | [a], c, h => .inr ⟨a, List.mem_cons_self, h⟩
  | a :: b :: r, c, h => by
    have h : c ∈ a ++ (s ++ TL.joinL s (b :: r)) := h
    rcases List.mem_append.mp h with z | z
    · exact .inr ⟨a, List.mem_cons_self, z⟩
    · rcases List.mem_append.mp z with z | z
      · exact .inl z
      · rcases joinL_mem s (b :: r) c z with y | ⟨l, hl, y⟩
        · exact .inl y
        · exact .inr ⟨l, List.mem_cons_of_mem _ hl, y⟩
theorem line_okc {p : Ins} (r : RdI p) : okc (lineL p) = true ∧ 10 ∉ lineL p ∧ 58 ∉ lineL p := by
  obtain ⟨f, h, hl, hf⟩ := r.form
  have key : ∀ c ∈ lineL p, c < 0x110000 ∧ c ≠ 10 ∧ c ≠ 58 := fun c hc => by
    rw [line_eq h] at hc
    rcases joinL_mem _ _ _ hc with z | ⟨l, hl, z⟩
    · rw [List.mem_singleton.mp z]; decide
    · rcases List.mem_cons.mp hl with y | y
      · subst y
        obtain ⟨_, _, q, o⟩ := forms_len h
        exact ⟨by simpa using List.all_eq_true.mp o c z, fun x => q.2.1 (x ▸ z), fun x => q.2.2 (x ▸ z)⟩
      · obtain ⟨q, hq, rfl⟩ := List.mem_map.mp y
        obtain ⟨_, a, o⟩ := all_not (itemL_plain h (List.of_mem_zip hq).1 q.2)
        exact ⟨by simpa using List.all_eq_true.mp o c z, fun x => a.1 (x ▸ z), fun x => a.2 (x ▸ z)⟩
  exact ⟨List.all_eq_true.mpr fun c hc => decide_eq_true (key c hc).1, fun z => (key 10 z).2.1 rfl, fun z => (key 58 z).2.2 rfl⟩
def isNm (l : List Nat) : Bool := decide (1 ≤ l.length) && (decide (l.length ≤ 8) && l.all isLet)
/-- the number in the place of a target's name, and the name -/
def namedL (l : List Nat) : List Nat × Option (List Nat) := match TL.spl [32] 0 [] l with
  | [] => (l, none)
  | w :: ws => match ws.getLast? with
    | none => (l, none)
    | some x => if jmp (mk w) = true ∧ isNm x = true then (TL.joinL [32] (w :: (ws.dropLast ++ [[48]])), some x) else (l, none)
def optS : Option (List Nat) → D
  | some x => .str (mk x)
  | none => .non
@[simp] theorem optS_some (x : List Nat) : optS (some x) = .str (mk x) := rfl
@[simp] theorem optS_none : optS none = .non := rfl
theorem isNm_num (n : Nat) : isNm (TL.numL n) = false := by
  unfold isNm
  have h : (TL.numL n).all isLet = false := by
    cases e : TL.numL n with
    | nil => exact absurd e (TL.numL_ne n)
    | cons c r =>
      have := numL_dig n
      rw [e, List.all_cons, Bool.and_eq_true] at this
      have hc := this.1
      have : isLet c = false := by
        unfold isDig at hc
        unfold isLet
        simp at hc ⊢
        omega
      rw [List.all_cons, this]; rfl
  rw [h, Bool.and_false, Bool.and_false]
theorem named_line {p : Ins} (r : RdI p) : namedL (lineL p) = (lineL p, none) := by
  obtain ⟨f, h, hl, hf⟩ := r.form
  unfold namedL
  rw [line_words h]
  dsimp only
  cases e : (((kinds f).zip p.2).map fun q => itemL q.1 q.2).getLast? with
  | none => rfl
  | some x =>
    dsimp only
    rw [if_neg]
    rintro ⟨hj, hn⟩
    rw [mk_tl] at hj
    have last : ∀ b : Int, fitK "t" b = true → isNm (itemL "t" b) = false := fun b hb => by
      have : itemL "t" b = TL.numL b.toNat := by
        unfold itemL
        rw [if_neg (by decide +kernel)]
        have h0 : 0 ≤ b := by simp [fitK] at hb; omega
        exact if_neg (by omega)
      rw [this]
      exact isNm_num _
    rcases jmp_form h hj with ⟨_, rfl⟩ | ⟨_, rfl⟩
    · obtain ⟨w, vs⟩ := p
      have hl : vs.length = 2 := hl
      match vs, hl with
      | [a, b], _ =>
        rw [kinds_ft] at e hf
        simp at e hf
        rw [← e, last b hf.2] at hn
        cases hn
    · obtain ⟨w, vs⟩ := p
      have hl : vs.length = 1 := hl
      match vs, hl with
      | [b], _ =>
        rw [kinds_t] at e hf
        simp at e hf
        rw [← e, last b hf] at hn
        cases hn
def linesL (l : List Nat) : List (List Nat) := if l = [] then [] else TL.spl [10] 0 [] l
theorem lineL_ne {p : Ins} (r : RdI p) : lineL p ≠ [] := fun z => by
  have := pIns_line r
  have e : pIns [] = none := by decide +kernel
  rw [z, e] at this
  cases this
theorem lines_text {l : List Ins} (h : ∀ p ∈ l, RdI p) : linesL (textL l) = l.map lineL := by
  unfold linesL textL
  cases l with
  | nil => rfl
  | cons p l =>
    have hne : TL.joinL [10] ((p :: l).map lineL) ≠ [] := fun z => by
      have hp := lineL_ne (h p List.mem_cons_self)
      cases l with
      | nil => exact hp z
      | cons q r =>
        have z : lineL p ++ ([10] ++ TL.joinL [10] ((q :: r).map lineL)) = [] := z
        exact hp (List.append_eq_nil_iff.mp z).1
    rw [if_neg hne]
    refine TL.spl_join (by simp) fun x hx => ?_
    obtain ⟨q, hq, rfl⟩ := List.mem_map.mp hx
    exact (line_okc (h q hq)).2.1
end TX
end
section
set_option Elab.async false
set_option linter.all false
set_option maxRecDepth 100000
set_option maxHeartbeats 4000000
/-! VP6: a law's own table of kinds. -/
namespace TX
open PySem SX
def lawT : List (Str × Str) := [("set", "ri"), ("add", "rrr"), ("sub", "rrr"), ("move", "rri"), ("pick", "rfrr"), ("less", "frr"), ("same", "frr"), ("jump", "fi"), ("goto", "i")]
def lawV : List (L2.Key × Vl) := lawT.map fun p => (.inr p.1, .fr (.str p.2))
def lawK (k : Str) : Str := if k = "r" ∨ k = "f" then k else "i"
theorem lawV_eq (w : Str) : ∀ l : List (Str × Str), valV (l.map fun p => ((.inr p.1 : L2.Key), Vl.fr (.str p.2))) (.inr w) = (l.lookup w).map fun f => .fr (.str f)
  | [] => rfl
  | (a, b) :: r => by
    rw [List.map_cons, List.lookup_cons]
    unfold valV
    rw [List.find?_cons]
    by_cases h : a = w
    · subst h
      simp
    · have h1 : (w == a) = false := beq_eq_false_iff_ne.mpr fun z => h z.symm
      have h2 : decide ((Sum.inr a : L2.Key) = Sum.inr w) = false := decide_eq_false fun z => h (by cases z; rfl)
      rw [h1, h2]
      exact lawV_eq w r
theorem lawT_of {w f : Str} (h : forms.lookup w = some f) : ∃ g, lawT.lookup w = some g ∧ kinds g = (kinds f).map lawK ∧ PyData.strOk g = true ∧ g.length ≤ 4 := by
  have := forms_all h (p := fun p => match lawT.lookup p.1 with
    | some g => decide (kinds g = (kinds p.2).map lawK) && (PyData.strOk g && decide (g.length ≤ 4))
    | none => false) (by decide +kernel)
  dsimp only at this
  split at this
  · rename_i g e
    simp only [Bool.and_eq_true, decide_eq_true_eq] at this
    exact ⟨g, e, this⟩
  · cases this
theorem lawV_of {w g : Str} (h : lawT.lookup w = some g) : valV lawV (.inr w) = some (.fr (.str g)) := by
  unfold lawV
  rw [lawV_eq, h]; rfl
theorem lawV_mrg : mergeV [(.inr "set", .fr (.str "ri")), (.inr "add", .fr (.str "rrr")), (.inr "sub", .fr (.str "rrr")), (.inr "move", .fr (.str "rri")), (.inr "pick", .fr (.str "rfrr")), (.inr "less", .fr (.str "frr")), (.inr "same", .fr (.str "frr"))] [(.inr "jump", .fr (.str "fi")), (.inr "goto", .fr (.str "i"))] = lawV := by
  simp [mergeV, putV, lawV, lawT]
theorem lawK_item (k : Str) (v : Int) : (if lawK k = "i" then intL v else tl (lawK k) ++ intL v) = itemL k v := by
  unfold lawK itemL
  by_cases h : k = "r" ∨ k = "f"
  · rw [if_pos h, if_pos h]
    rw [if_neg]
    intro z
    rcases h with rfl | rfl <;> exact absurd z (by decide +kernel)
  · rw [if_neg h, if_neg h, if_pos rfl]
theorem lawK_ok {k : Str} (h : PyData.strOk k = true) : PyData.strOk (lawK k) = true := by
  unfold lawK
  split
  · exact h
  · exact ofS_ok _
theorem lawK_len {k : Str} (h : k.length = 1) : (lawK k).length = 1 := by
  unfold lawK
  split
  · exact h
  · decide +kernel
/-! the pool -/
def PoolOk (a b : Int) : Prop := 0 ≤ a ∧ 0 ≤ b ∧ b < 2147483647
end TX
namespace TX
open PySem SX
def cellF (ns : List Int) (k : Nat) : Int := match ns[k]? with
  | some v => if v < 0 then -v else v
  | none => 0
theorem cellF_nn (ns : List Int) (k : Nat) : 0 ≤ cellF ns k := by
  unfold cellF
  split
  · split <;> omega
  · exact Int.le_refl _
def mixF (c k : Int) : Int := (c % 2147483629 + 7919 * k * k + 31 * k + 17) * 48271 % 2147483647
theorem mixF_nn (c k : Int) : 0 ≤ mixF c k ∧ mixF c k < 2147483647 := ⟨Int.emod_nonneg _ (by decide), Int.emod_lt_of_pos _ (by decide)⟩
theorem mul_l {x : Int} (h1 : -18446744073709551616 < x) (h2 : x < 18446744073709551616) (y : Int) : mulOk x y = true := by
  unfold mulOk
  have a : -(2 ^ 64 : Int) < x := by simpa using h1
  have b : x < 2 ^ 64 := by simpa using h2
  rw [decide_eq_true a, decide_eq_true b]; rfl
theorem mul_r {x : Int} (h1 : -18446744073709551616 < x) (h2 : x < 18446744073709551616) (y : Int) : mulOk y x = true := by
  unfold mulOk
  have a : -(2 ^ 64 : Int) < x := by simpa using h1
  have b : x < 2 ^ 64 := by simpa using h2
  rw [decide_eq_true a, decide_eq_true b]; simp
theorem div_ok {j : Int} (h : 0 < j) (h2 : j < 18446744073709551616) : divOk j = true := by
  unfold divOk
  rw [decide_eq_true h]
  have : j.natAbs.log2 < 9000 := by
    have h3 : j.natAbs < 2 ^ 64 := by omega
    have h4 : j.natAbs ≠ 0 := by omega
    have := (Nat.log2_lt h4).mpr h3
    omega
  rw [decide_eq_true this]; rfl
@[simp] theorem isFrzd_ls (d : List D) : frzd (.ls d) = some (.lst d) := rfl
end TX
end
section
set_option Elab.async false
set_option linter.all false
set_option maxRecDepth 100000
set_option maxHeartbeats 4000000
/-! VP7: repr of instructions. -/
namespace TX
open PySem SX
theorem okc_join {s : List Nat} {ls : List (List Nat)} (hs : okc s = true) (h : ∀ l ∈ ls, okc l = true) : okc (TL.joinL s ls) = true := List.all_eq_true.mpr fun c hc => by
  rcases joinL_mem s ls c hc with z | ⟨l, hl, z⟩
  · exact List.all_eq_true.mp hs c z
  · exact List.all_eq_true.mp (h l hl) c z
theorem okc_intL (v : Int) : okc (intL v) = true := (all_not (intL_plain v)).2.2
theorem ok_tuple {ts : List Str} (h : ∀ t ∈ ts, PyData.strOk t = true) : PyData.strOk (tupleText ts) = true := by
  have hj : okc (tl (Str.join ", " ts)) = true := by
    rw [show tl (Str.join ", " ts) = TL.joinL (tl ", ") (ts.map tl) from TL.tl_join _ _]
    refine okc_join (by decide +kernel) fun l hl => ?_
    obtain ⟨t, ht, rfl⟩ := List.mem_map.mp hl
    rw [← ok_tl]; exact h t ht
  unfold tupleText
  rw [ok_tl, tl_app, tl_app, okc_app, okc_app, hj]
  split <;> decide +kernel
theorem shown_int (v : Int) : (PyData.int v).shown = mk (intL v) := str_int v
/-- what repr makes of instructions -/
def insY (p : Ins) : PyData := .tuple (.str p.1 :: p.2.map .int)
theorem toP_insP (p : Ins) : (insP p).toP = some (insY p) := toP_ins p.1 p.2
theorem toPs_insP : ∀ l : List Ins, D.toPs (l.map insP) = some (l.map insY)
  | [] => rfl
  | p :: l => by
    show (match D.toP (insP p), D.toPs (l.map insP) with | some x, some xs => some (x :: xs) | _, _ => none) = _
    rw [toP_insP, toPs_insP l]; rfl
structure RpI (p : Ins) : Prop where
  form : ∃ f, forms.lookup p.1 = some f
  len : p.2.length ≤ 4
  str : ∀ v ∈ p.2, SX.strOk v = true
theorem rp_word {w f : Str} (h : forms.lookup w = some f) : PyData.strOk (reprText w) = true ∧ w.length ≤ 4 := by
  have := forms_all h (p := fun p => PyData.strOk (reprText p.1) && decide (p.1.length ≤ 4)) (by decide +kernel)
  simp only [Bool.and_eq_true, decide_eq_true_eq] at this
  exact this
theorem show_ints : ∀ {vs : List Int}, (∀ v ∈ vs, SX.strOk v = true) → PyData.showableAll (vs.map .int) = true ∧ PyData.leavesShortAll 600 (vs.map .int) = true ∧ PyData.bulkAll (vs.map .int) = vs.length ∧ ∀ t ∈ PyData.shownAll (vs.map .int), PyData.strOk t = true
  | [], _ => ⟨rfl, rfl, rfl, fun _ h => by cases h⟩
  | v :: vs, h => by
    obtain ⟨a, b, c, d⟩ := show_ints (vs := vs) fun u hu => h u (List.mem_cons_of_mem _ hu)
    have hv := h v List.mem_cons_self
    refine ⟨?_, ?_, ?_, fun t ht => ?_⟩
    · show (decide (v.natAbs.log2 < 1920) && PyData.showableAll (vs.map .int)) = true
      rw [a, Bool.and_true]; exact hv
    · show (decide ((PyData.shown (.int v)).length ≤ 600) && PyData.leavesShortAll 600 (vs.map .int)) = true
      rw [b, Bool.and_true, shown_int, len_mk]
      exact decide_eq_true (log_len hv)
    · show 0 + 1 + PyData.bulkAll (vs.map .int) = _
      rw [c]; simp; omega
    · have ht : t ∈ PyData.shown (.int v) :: PyData.shownAll (vs.map .int) := ht
      rcases List.mem_cons.mp ht with z | z
      · rw [z, shown_int, ok_mk]; exact okc_intL v
      · exact d t z
theorem show_ins {p : Ins} (r : RpI p) : (insY p).showable = true ∧ (insY p).leavesShort 600 = true ∧ (insY p).bulk ≤ 9 ∧ PyData.strOk (insY p).shown = true := by
  obtain ⟨f, h⟩ := r.form
  obtain ⟨w1, w2⟩ := rp_word h
  obtain ⟨o1, _⟩ := forms_ok h
  obtain ⟨a, b, c, d⟩ := show_ints r.str
  have hl := r.len
  refine ⟨a, ?_, ?_, ?_⟩
  · show ((p.1.cps.toList.all fun c => decide (c < 16 ^ 8)) && PyData.leavesShortAll 600 (p.2.map .int)) = true
    rw [b, Bool.and_true]
    refine List.all_eq_true.mpr fun c hc => decide_eq_true ?_
    rw [ok_tl] at o1
    have := List.all_eq_true.mp o1 c hc
    simp at this
    omega
  · show p.1.cps.size + 1 + PyData.bulkAll (p.2.map .int) ≤ 9
    rw [c]
    have : p.1.cps.size ≤ 4 := w2
    omega
  · refine ok_tuple fun t ht => ?_
    have ht : t ∈ reprText p.1 :: PyData.shownAll (p.2.map .int) := ht
    rcases List.mem_cons.mp ht with z | z
    · rw [z]; exact w1
    · exact d t z
theorem show_all : ∀ {l : List Ins}, (∀ p ∈ l, RpI p) → PyData.showableAll (l.map insY) = true ∧ PyData.leavesShortAll 600 (l.map insY) = true ∧ PyData.bulkAll (l.map insY) ≤ 10 * l.length ∧ ∀ t ∈ PyData.shownAll (l.map insY), PyData.strOk t = true
  | [], _ => ⟨rfl, rfl, Nat.le_refl _, fun _ h => by cases h⟩
  | p :: l, h => by
    obtain ⟨a, b, c, d⟩ := show_all (l := l) fun u hu => h u (List.mem_cons_of_mem _ hu)
    obtain ⟨a1, b1, c1, d1⟩ := show_ins (h p List.mem_cons_self)
    refine ⟨?_, ?_, ?_, fun t ht => ?_⟩
    · show ((insY p).showable && PyData.showableAll (l.map insY)) = true
      rw [a, a1]; rfl
    · show ((insY p).leavesShort 600 && PyData.leavesShortAll 600 (l.map insY)) = true
      rw [b, b1]; rfl
    · show (insY p).bulk + 1 + PyData.bulkAll (l.map insY) ≤ _
      rw [List.length_cons]; omega
    · have ht : t ∈ (insY p).shown :: PyData.shownAll (l.map insY) := ht
      rcases List.mem_cons.mp ht with z | z
      · rw [z]; exact d1
      · exact d t z
def reprS (l : List Ins) : Str := (PyData.tuple (l.map insY)).shown
theorem repr_prg {l : List Ins} (h : ∀ p ∈ l, RpI p) (hl : l.length ≤ 200) : pureO (bltD .repr [.tup (l.map insP)]) = some (.str (reprS l)) ∧ PyData.strOk (reprS l) = true := by
  obtain ⟨a, b, c, d⟩ := show_all h
  refine ⟨?_, ok_tuple d⟩
  rw [po_b_reprt]
  have e : D.toP (.tup (l.map insP)) = some (.tuple (l.map insY)) := by
    show (D.toPs (l.map insP)).map PyData.tuple = _
    rw [toPs_insP]; rfl
  rw [e, Option.bind_some]
  have hsh : SeqAt.shaped (.tuple (l.map insY)) = true := by
    obtain ⟨x, hx, cx, dx⟩ := Enc.ins.tup.lay l fun p hp => by
      obtain ⟨f, hf⟩ := (h p hp).form
      exact (forms_ok hf).1
    rw [e] at hx
    cases hx
    unfold SeqAt.shaped
    rw [cx, decide_eq_true (by omega : PyData.depth (.tuple (l.map insY)) ≤ 64)]; rfl
  have hz : fitB (PyData.tuple (l.map insY)).shown.length = true := by
    have := PyData.shown_le_bulk 600 (by decide) (.tuple (l.map insY)) b
    have e2 : (PyData.tuple (l.map insY)).bulk = PyData.bulkAll (l.map insY) := rfl
    rw [e2] at this
    refine decide_eq_true ?_
    omega
  have hs : (PyData.tuple (l.map insY)).showable = true := a
  rw [hs, hsh, hz]
  rfl
end TX
end
section
set_option Elab.async false
set_option linter.all false
set_option maxRecDepth 100000
set_option maxHeartbeats 0

namespace G71
open PySem PySem.Spec PyProof.Rows L2 SX

def top (i : Nat) : Stmt := PySem.Challenge.pw_carryrounds_k71_programs_written.main.body.getD i (.Pass ⟨0, 0, 0, 0⟩)
def c_is_integer : Def := ⟨1, 1,
    (.cons (.ret (.and (.isi (.var 0) [.int]) (.not (.isi (.var 0) [.bool]))))
    .nil)⟩
def c_is_between : Def := ⟨3, 3,
    (.cons (.ret (.and (.cal 0 (.one (.var 0) .nil)) (.chn .le .le (.var 1) (.var 0) (.var 2))))
    .nil)⟩
def c_check_between : Def := ⟨3, 3,
    (.cons (.ite (.not (.cal 1 (.one (.var 0) (.one (.var 1) (.one (.var 2) .nil))))) (.cons .bad
    .nil) .nil)
    .nil)⟩
def c_fits : Def := ⟨2, 2,
    (.cons (.ite (.cmp .eq (.var 0) (.con (.str "r"))) (.cons (.ret (.cal 1 (.one (.var 1) (.one (.con (.int 0)) (.one (.bin .sub (.glo 0) (.con (.int 1))) .nil)))))
    .nil) .nil)
    (.cons (.ite (.cmp .eq (.var 0) (.con (.str "f"))) (.cons (.ret (.cal 1 (.one (.var 1) (.one (.con (.int 0)) (.one (.bin .sub (.glo 1) (.con (.int 1))) .nil)))))
    .nil) .nil)
    (.cons (.ite (.cmp .eq (.var 0) (.con (.str "p"))) (.cons (.ret (.cal 1 (.one (.var 1) (.one (.neg (.glo 3)) (.one (.glo 3) .nil)))))
    .nil) .nil)
    (.cons (.ite (.cmp .eq (.var 0) (.con (.str "t"))) (.cons (.ret (.cal 1 (.one (.var 1) (.one (.con (.int 0)) (.one (.glo 2) .nil)))))
    .nil) .nil)
    (.cons (.ret (.cal 0 (.one (.var 1) .nil)))
    .nil)))))⟩
def c_is_instruction_k1 : CE :=
    (.com [2, 3] (.tup (.cons (.nam 2) (.cons (.nam 3) .nil))) (.zip (.var 1) (.slc (.var 0) (.so (.con (.int 1))) .no)) .no (.cal 3 (.one (.var 2) (.one (.var 3) .nil))))
def c_is_instruction : Def := ⟨1, 4,
    (.cons (.ite (.or (.not (.isi (.var 0) [.tuple])) (.or (.cmp .eq (.var 0) (.tup .nil)) (.or (.not (.isi (.idx (.var 0) (.con (.int 0))) [.str])) (.gin 8 (.idx (.var 0) (.con (.int 0))) true)))) (.cons (.ret (.con (.bl false)))
    .nil) .nil)
    (.cons (.asg (.nam 1) (.gix 8 (.idx (.var 0) (.con (.int 0)))))
    (.cons (.ret (.and (.cmp .eq (.blt .len (.one (.var 0) .nil)) (.bin .add (.blt .len (.one (.var 1) .nil)) (.con (.int 1)))) (.blt .all (.one c_is_instruction_k1 .nil))))
    .nil)))⟩
def c_is_within : Def := ⟨2, 2,
    (.cons (.ret (.or (.cmp .notin (.idx (.var 0) (.con (.int 0))) (.tup (.one (.con (.str "jump")) (.one (.con (.str "goto")) .nil)))) (.cmp .le (.idx (.var 0) (.neg (.con (.int 1)))) (.var 1))))
    .nil)⟩
def c_shifted : Def := ⟨2, 2,
    (.cons (.ite (.cmp .isin (.idx (.var 0) (.con (.int 0))) (.tup (.one (.con (.str "jump")) (.one (.con (.str "goto")) .nil)))) (.cons (.ret (.tup (.sta (.slc (.var 0) .no (.so (.neg (.con (.int 1))))) (.one (.bin .add (.idx (.var 0) (.neg (.con (.int 1)))) (.var 1)) .nil))))
    .nil) .nil)
    (.cons (.ret (.var 0))
    .nil))⟩
def c_Program_init_b1 : CSs :=
    (.cons (.ite (.or (.not (.cal 4 (.one (.var 2) .nil))) (.not (.cal 5 (.one (.var 2) (.one (.blt .len (.one (.var 1) .nil)) .nil))))) (.cons .bad
    .nil) .nil)
    .nil)
def c_Program_init_k1 : CE :=
    (.com [3] (.nam 3) (.seq (.att (.var 0) 4)) .no (.cmp .isin (.idx (.var 3) (.con (.int 0))) (.tup (.one (.con (.str "jump")) (.one (.con (.str "goto")) .nil)))))
def c_Program_init : Def := ⟨2, 4,
    (.cons (.ite (.or (.not (.isi (.var 1) [.list, .tuple])) (.cmp .gt (.blt .len (.one (.var 1) .nil)) (.glo 2))) (.cons .bad
    .nil) .nil)
    (.cons (.for_ (.nam 2) (.seq (.var 1)) c_Program_init_b1)
    (.cons (.asg (.att (.var 0) 4) (.blt .tuple (.one (.var 1) .nil)))
    (.cons (.asg (.att (.var 0) 5) (.not (.blt .any (.one c_Program_init_k1 .nil))))
    .nil))))⟩
def c_Program_add_k1 : CE :=
    (.com [3] (.nam 3) (.seq (.att (.var 1) 4)) .no (.cal 6 (.one (.var 3) (.one (.var 2) .nil))))
def c_Program_add : Def := ⟨2, 4,
    (.cons (.asg (.nam 2) (.blt .len (.one (.att (.var 0) 4) .nil)))
    (.cons (.ite (.cmp .gt (.bin .add (.var 2) (.blt .len (.one (.att (.var 1) 4) .nil))) (.glo 2)) (.cons .bad
    .nil) .nil)
    (.cons (.ret (.mak 0 (.one (.lst (.sta (.att (.var 0) 4) (.sta c_Program_add_k1 .nil))) .nil)))
    .nil)))⟩
def c_Program_eq : Def := ⟨2, 2,
    (.cons (.ret (.and (.isi (.var 1) [.cls 0]) (.cmp .eq (.att (.var 0) 4) (.att (.var 1) 4))))
    .nil)⟩
def c_Program_getitem : Def := ⟨2, 2,
    (.cons (.exp (.cal 2 (.one (.var 1) (.one (.con (.int 0)) (.one (.bin .sub (.blt .len (.one (.att (.var 0) 4) .nil)) (.con (.int 1))) .nil)))))
    (.cons (.ret (.idx (.att (.var 0) 4) (.var 1)))
    .nil))⟩
def c_Program_len : Def := ⟨1, 1,
    (.cons (.ret (.blt .len (.one (.att (.var 0) 4) .nil)))
    .nil)⟩
def c_Program_instructions : Def := ⟨1, 1,
    (.cons (.ret (.att (.var 0) 4))
    .nil)⟩
def c_is_name_k1 : CE :=
    (.com [1] (.nam 1) (.seq (.var 0)) .no (.cmp .isin (.var 1) (.glo 4)))
def c_is_name : Def := ⟨1, 2,
    (.cons (.ite (.or (.not (.isi (.var 0) [.str])) (.not (.chn .le .le (.con (.int 1)) (.blt .len (.one (.var 0) .nil)) (.glo 5)))) (.cons (.ret (.con (.bl false)))
    .nil) .nil)
    (.cons (.ret (.blt .all (.one c_is_name_k1 .nil)))
    .nil))⟩
def c_parse_count_k1 : CE :=
    (.com [1] (.nam 1) (.seq (.var 0)) .no (.cmp .isin (.var 1) (.glo 6)))
def c_parse_count : Def := ⟨1, 2,
    (.cons (.ite (.or (.not (.chn .le .le (.con (.int 1)) (.blt .len (.one (.var 0) .nil)) (.glo 7))) (.not (.blt .all (.one c_parse_count_k1 .nil)))) (.cons (.ret (.con .non))
    .nil) .nil)
    (.cons (.ret (.ite (.or (.cmp .eq (.var 0) (.con (.str "0"))) (.not (.bmt .startswith (.var 0) (.one (.con (.str "0")) .nil)))) (.blt .int (.one (.var 0) .nil)) (.con .non)))
    .nil))⟩
def c_parse_integer : Def := ⟨1, 2,
    (.cons (.ite (.not (.bmt .startswith (.var 0) (.one (.con (.str "-")) .nil))) (.cons (.ret (.cal 8 (.one (.var 0) .nil)))
    .nil) .nil)
    (.cons (.asg (.nam 1) (.cal 8 (.one (.slc (.var 0) (.so (.con (.int 1))) .no) .nil)))
    (.cons (.ret (.ite (.or (.cmp .isN (.var 1) (.con .non)) (.cmp .eq (.var 1) (.con (.int 0)))) (.con .non) (.neg (.var 1))))
    .nil)))⟩
def c_format_item : Def := ⟨2, 2,
    (.cons (.ret (.ite (.cmp .isin (.var 0) (.tup (.one (.con (.str "r")) (.one (.con (.str "f")) .nil)))) (.fst (.one (.var 0) (.one (.var 1) .nil))) (.blt .str (.one (.var 1) .nil))))
    .nil)⟩
def c_format_instruction_k1 : CE :=
    (.com [2, 3] (.tup (.cons (.nam 2) (.cons (.nam 3) .nil))) (.zip (.var 1) (.slc (.var 0) (.so (.con (.int 1))) .no)) .no (.cal 10 (.one (.var 2) (.one (.var 3) .nil))))
def c_format_instruction : Def := ⟨1, 4,
    (.cons (.asg (.nam 1) (.gix 8 (.idx (.var 0) (.con (.int 0)))))
    (.cons (.ret (.bmt .join (.con (.str " ")) (.one (.lst (.one (.idx (.var 0) (.con (.int 0))) (.sta c_format_instruction_k1 .nil))) .nil)))
    .nil))⟩
def c_format_program_k1 : CE :=
    (.com [1] (.nam 1) (.seq (.att (.var 0) 6)) .no (.cal 11 (.one (.var 1) .nil)))
def c_format_program : Def := ⟨1, 2,
    (.cons (.ret (.bmt .join (.con (.str "\n")) (.one c_format_program_k1 .nil)))
    .nil)⟩
def c_parse_item : Def := ⟨2, 2,
    (.cons (.ite (.cmp .isin (.var 0) (.tup (.one (.con (.str "r")) (.one (.con (.str "f")) .nil)))) (.cons (.ret (.ite (.bmt .startswith (.var 1) (.one (.var 0) .nil)) (.cal 8 (.one (.slc (.var 1) (.so (.con (.int 1))) .no) .nil)) (.con .non)))
    .nil) .nil)
    (.cons (.ret (.cal 9 (.one (.var 1) .nil)))
    .nil))⟩
def c_parse_instruction_k1 : CE :=
    (.com [4, 5] (.tup (.cons (.nam 4) (.cons (.nam 5) .nil))) (.zip (.gix 8 (.var 2)) (.var 3)) .no (.cal 13 (.one (.var 4) (.one (.var 5) .nil))))
def c_parse_instruction_k2 : CE :=
    (.com [5] (.nam 5) (.seq (.var 1)) .no (.cmp .isN (.var 5) (.con .non)))
def c_parse_instruction : Def := ⟨1, 6,
    (.cons (.asg (.hdt 2 3) (.bmt .split (.var 0) (.one (.con (.str " ")) .nil)))
    (.cons (.ite (.or (.gin 8 (.var 2) true) (.cmp .ne (.blt .len (.one (.gix 8 (.var 2)) .nil)) (.blt .len (.one (.var 3) .nil)))) (.cons (.ret (.con .non))
    .nil) .nil)
    (.cons (.asg (.nam 1) c_parse_instruction_k1)
    (.cons (.ite (.blt .any (.one c_parse_instruction_k2 .nil)) (.cons (.ret (.con .non))
    .nil) .nil)
    (.cons (.ite (.cmp .isin (.var 2) (.tup (.one (.con (.str "jump")) (.one (.con (.str "goto")) .nil)))) (.cons (.ret (.ite (.and (.cmp .ge (.idx (.var 1) (.neg (.con (.int 1)))) (.con (.int 0))) (.cal 4 (.one (.tup (.one (.var 2) (.sta (.slc (.var 1) .no (.so (.neg (.con (.int 1))))) (.one (.con (.int 0)) .nil)))) .nil))) (.tup (.one (.var 2) (.sta (.var 1) .nil))) (.con .non)))
    .nil) .nil)
    (.cons (.ret (.ite (.cal 4 (.one (.tup (.one (.var 2) (.sta (.var 1) .nil))) .nil)) (.tup (.one (.var 2) (.sta (.var 1) .nil))) (.con .non)))
    .nil))))))⟩
def c_lines_of : Def := ⟨1, 1,
    (.cons (.ite (.not (.isi (.var 0) [.str])) (.cons .bad
    .nil) .nil)
    (.cons (.ret (.ite (.cmp .ne (.var 0) (.con (.str ""))) (.bmt .split (.var 0) (.one (.con (.str "\n")) .nil)) (.lst .nil)))
    .nil))⟩
def c_parse_program_b1 : CSs :=
    (.cons (.asg (.nam 4) (.cal 14 (.one (.var 3) .nil)))
    (.cons (.ite (.cmp .isN (.var 4) (.con .non)) (.cons .bad
    .nil) .nil)
    (.cons (.exp (.bmt .append (.var 1) (.one (.var 4) .nil)))
    .nil)))
def c_parse_program : Def := ⟨1, 5,
    (.cons (.asg (.nam 1) (.lsc .nil))
    (.cons (.for_ (.tup (.cons (.nam 2) (.cons (.nam 3) .nil))) (.enu (.cal 15 (.one (.var 0) .nil))) c_parse_program_b1)
    (.cons (.ret (.mak 0 (.one (.frz 1) .nil)))
    .nil)))⟩
def c_named_target : Def := ⟨1, 3,
    (.cons (.asg (.hdt 1 2) (.bmt .split (.var 0) (.one (.con (.str " ")) .nil)))
    (.cons (.ite (.and (.cmp .isin (.var 1) (.tup (.one (.con (.str "jump")) (.one (.con (.str "goto")) .nil)))) (.and (.cmp .ne (.var 2) (.lst .nil)) (.cal 7 (.one (.idx (.var 2) (.neg (.con (.int 1)))) .nil)))) (.cons (.ret (.tup (.one (.bmt .join (.con (.str " ")) (.one (.lst (.one (.var 1) (.sta (.slc (.var 2) .no (.so (.neg (.con (.int 1))))) (.one (.con (.str "0")) .nil)))) .nil)) (.one (.idx (.var 2) (.neg (.con (.int 1)))) .nil))))
    .nil) .nil)
    (.cons (.ret (.tup (.one (.var 0) (.one (.con .non) .nil))))
    .nil)))⟩
def c_assemble_b1 : CSs :=
    (.cons (.ite (.and (.bmt .endswith (.var 5) (.one (.con (.str ":")) .nil)) (.cal 7 (.one (.slc (.var 5) .no (.so (.neg (.con (.int 1))))) .nil))) (.cons (.ite .hol (.cons .bad
    .nil) .nil)
    (.cons (.asg (.sub (.var 2) (.slc (.var 5) .no (.so (.neg (.con (.int 1)))))) (.blt .len (.one (.var 3) .nil)))
    .nil)) (.cons (.asg (.tup (.cons (.nam 8) (.cons (.nam 7) .nil))) (.cal 17 (.one (.var 5) .nil)))
    (.cons (.asg (.nam 6) (.cal 14 (.one (.var 8) .nil)))
    (.cons (.ite (.cmp .isN (.var 6) (.con .non)) (.cons .bad
    .nil) .nil)
    (.cons (.exp (.bmt .append (.var 3) (.one (.tup (.one (.var 4) (.one (.var 6) (.one (.var 7) .nil)))) .nil)))
    .nil)))))
    .nil)
def c_assemble_b2 : CSs :=
    (.cons (.ite (.and (.cmp .notN (.var 7) (.con .non)) .hol) (.cons .bad
    .nil) .nil)
    (.cons (.exp (.bmt .append (.var 1) (.one (.ite (.cmp .isN (.var 7) (.con .non)) (.var 6) (.tup (.sta (.slc (.var 6) .no (.so (.neg (.con (.int 1))))) (.one (.idx (.var 2) (.var 7)) .nil)))) .nil)))
    .nil))
def c_assemble : Def := ⟨1, 9,
    (.cons (.asg (.tup (.cons (.nam 2) (.cons (.nam 3) .nil))) (.tup (.one .dnw (.one (.lsc .nil) .nil))))
    (.cons (.for_ (.tup (.cons (.nam 4) (.cons (.nam 5) .nil))) (.enu (.cal 15 (.one (.var 0) .nil))) c_assemble_b1)
    (.cons (.asg (.nam 1) (.lsc .nil))
    (.cons (.for_ (.tup (.cons (.nam 4) (.cons (.nam 6) (.cons (.nam 7) .nil)))) (.seq (.frz 3)) c_assemble_b2)
    (.cons (.ret (.mak 0 (.one (.frz 1) .nil)))
    .nil)))))⟩
def c__law_pool : Def := ⟨2, 4,
    (.cons (.asg (.nam 2) (.con (.int 0)))
    (.cons (.ite (.cmp .lt (.var 1) (.blt .len (.one (.var 0) .nil))) (.cons (.asg (.nam 2) (.blt .abs (.one (.idx (.var 0) (.var 1)) .nil)))
    .nil) .nil)
    (.cons (.asg (.nam 3) (.bin .mod (.bin .mul (.bin .add (.bin .add (.bin .add (.bin .mod (.var 2) (.con (.int 2147483629))) (.bin .mul (.bin .mul (.con (.int 7919)) (.var 1)) (.var 1))) (.bin .mul (.con (.int 31)) (.var 1))) (.con (.int 17))) (.con (.int 48271))) (.con (.int 2147483647))))
    (.cons (.ret (.lsc (.one (.bin .mul (.var 2) (.blt .int (.one (.cmp .ge (.var 2) (.bin .pow (.con (.int 10)) (.con (.int 18)))) .nil))) (.one (.bin .mod (.bin .mul (.var 3) (.var 3)) (.con (.int 2147483629))) .nil))))
    .nil))))⟩
def c__law_take : Def := ⟨2, 3,
    (.cons (.ite (.cmp .gt (.idx (.var 0) (.con (.int 0))) (.con (.int 0))) (.cons (.asg (.nam 2) (.bin .mod (.idx (.var 0) (.con (.int 0))) (.var 1)))
    (.cons (.asg (.sub (.var 0) (.con (.int 0))) (.bin .fdiv (.idx (.var 0) (.con (.int 0))) (.var 1)))
    (.cons (.ret (.var 2))
    .nil))) .nil)
    (.cons (.asg (.sub (.var 0) (.con (.int 1))) (.bin .mod (.bin .add (.bin .mul (.idx (.var 0) (.con (.int 1))) (.con (.int 48271))) (.con (.int 12345))) (.con (.int 2147483647))))
    (.cons (.ret (.bin .mod (.bin .fdiv (.bin .mod (.bin .mul (.idx (.var 0) (.con (.int 1))) (.idx (.var 0) (.con (.int 1)))) (.con (.int 2147483629))) (.con (.int 64))) (.var 1)))
    .nil)))⟩
def c__law_text_b1 : CSs :=
    (.cons (.exp (.bmt .append (.var 2) (.one (.ite (.cmp .eq (.var 3) (.con (.str "i"))) (.blt .str (.one (.var 4) .nil)) (.bin .add (.var 3) (.blt .str (.one (.var 4) .nil)))) .nil)))
    .nil)
def c__law_text : Def := ⟨1, 5,
    (.cons (.asg (.nam 1) (.dcc [.inr "set", .inr "add", .inr "sub", .inr "move", .inr "pick", .inr "less", .inr "same"] (.one (.con (.str "ri")) (.one (.con (.str "rrr")) (.one (.con (.str "rrr")) (.one (.con (.str "rri")) (.one (.con (.str "rfrr")) (.one (.con (.str "frr")) (.one (.con (.str "frr")) .nil)))))))))
    (.cons (.exp (.bmt .update (.var 1) (.one (.dcc [.inr "jump", .inr "goto"] (.one (.con (.str "fi")) (.one (.con (.str "i")) .nil))) .nil)))
    (.cons (.asg (.nam 2) (.lsc (.one (.idx (.var 0) (.con (.int 0))) .nil)))
    (.cons (.for_ (.tup (.cons (.nam 3) (.cons (.nam 4) .nil))) (.zip (.idx (.var 1) (.idx (.var 0) (.con (.int 0)))) (.slc (.var 0) (.so (.con (.int 1))) .no)) c__law_text_b1)
    (.cons (.ret (.bmt .join (.con (.str " ")) (.one (.frz 2) .nil)))
    .nil)))))⟩
def c__law_any_code_b1 : CSs :=
    (.cons (.asg (.nam 4) (.cal 20 (.one (.var 0) (.one (.con (.int 6)) .nil))))
    (.cons (.ite (.cmp .eq (.var 4) (.con (.int 0))) (.cons (.exp (.bmt .append (.var 2) (.one (.tup (.one (.con (.str "jump")) (.one (.cal 20 (.one (.var 0) (.one (.con (.int 4)) .nil))) (.one (.cal 20 (.one (.var 0) (.one (.bin .add (.var 1) (.con (.int 1))) .nil))) .nil)))) .nil)))
    .nil) (.cons (.ite (.cmp .eq (.var 4) (.con (.int 1))) (.cons (.exp (.bmt .append (.var 2) (.one (.tup (.one (.con (.str "goto")) (.one (.cal 20 (.one (.var 0) (.one (.bin .add (.var 1) (.con (.int 1))) .nil))) .nil))) .nil)))
    .nil) (.cons (.ite (.cmp .eq (.var 4) (.con (.int 2))) (.cons (.asg (.nam 5) (.lst (.one (.con (.int 0)) (.one (.neg (.con (.int 1))) (.one (.bin .pow (.con (.int 10)) (.con (.int 40))) (.one (.neg (.bin .pow (.con (.int 10)) (.con (.int 30)))) (.one (.con (.int 7)) .nil)))))))
    (.cons (.exp (.bmt .append (.var 2) (.one (.tup (.one (.con (.str "set")) (.one (.cal 20 (.one (.var 0) (.one (.con (.int 8)) .nil))) (.one (.idx (.var 5) (.cal 20 (.one (.var 0) (.one (.con (.int 5)) .nil)))) .nil)))) .nil)))
    .nil)) (.cons (.ite (.cmp .eq (.var 4) (.con (.int 3))) (.cons (.asg (.tup (.cons (.nam 6) (.cons (.nam 7) .nil))) (.tup (.one (.cal 20 (.one (.var 0) (.one (.con (.int 8)) .nil))) (.one (.cal 20 (.one (.var 0) (.one (.con (.int 8)) .nil))) .nil))))
    (.cons (.exp (.bmt .append (.var 2) (.one (.tup (.one (.con (.str "move")) (.one (.var 6) (.one (.var 7) (.one (.bin .sub (.cal 20 (.one (.var 0) (.one (.con (.int 81)) .nil))) (.con (.int 40))) .nil))))) .nil)))
    .nil)) (.cons (.ite (.cmp .eq (.var 4) (.con (.int 4))) (.cons (.asg (.tup (.cons (.nam 6) (.cons (.nam 8) .nil))) (.tup (.one (.cal 20 (.one (.var 0) (.one (.con (.int 8)) .nil))) (.one (.cal 20 (.one (.var 0) (.one (.con (.int 4)) .nil))) .nil))))
    (.cons (.exp (.bmt .append (.var 2) (.one (.tup (.one (.con (.str "pick")) (.one (.var 6) (.one (.var 8) (.one (.cal 20 (.one (.var 0) (.one (.con (.int 8)) .nil))) (.one (.cal 20 (.one (.var 0) (.one (.con (.int 8)) .nil))) .nil)))))) .nil)))
    .nil)) (.cons (.asg (.tup (.cons (.nam 9) (.cons (.nam 6) .nil))) (.tup (.one (.idx (.lst (.one (.con (.str "add")) (.one (.con (.str "sub")) (.one (.con (.str "less")) (.one (.con (.str "same")) .nil))))) (.cal 20 (.one (.var 0) (.one (.con (.int 4)) .nil)))) (.one (.cal 20 (.one (.var 0) (.one (.con (.int 4)) .nil))) .nil))))
    (.cons (.exp (.bmt .append (.var 2) (.one (.tup (.one (.var 9) (.one (.var 6) (.one (.cal 20 (.one (.var 0) (.one (.con (.int 8)) .nil))) (.one (.cal 20 (.one (.var 0) (.one (.con (.int 8)) .nil))) .nil))))) .nil)))
    .nil)))
    .nil))
    .nil))
    .nil))
    .nil))
    .nil))
def c__law_any_code : Def := ⟨2, 10,
    (.cons (.asg (.nam 2) (.lsc .nil))
    (.cons (.for_ (.nam 3) (.rng (.var 1)) c__law_any_code_b1)
    (.cons (.ret (.frz 2))
    .nil)))⟩
def c__law_long_right_k1 : CE :=
    (.com [3] (.nam 3) (.seq (.var 1)) .no (.cal 21 (.one (.var 3) .nil)))
def c__law_long_right_s1 : CS :=
    (.asg (.nam 0) (.bin .sub (.bin .mul (.bin .mul (.bin .mul (.bin .pow (.con (.int 10)) (.con (.int 50))) (.bin .pow (.con (.int 10)) (.con (.int 50)))) (.bin .pow (.con (.int 10)) (.con (.int 50)))) (.bin .pow (.con (.int 10)) (.con (.int 50)))) (.con (.int 1))))
def c__law_long_right_s2 : CS :=
    (.asg (.nam 1) (.lst (.one (.tup (.one (.con (.str "set")) (.one (.con (.int 0)) (.one (.var 0) .nil)))) (.one (.tup (.one (.con (.str "set")) (.one (.con (.int 1)) (.one (.neg (.var 0)) .nil)))) (.one (.tup (.one (.con (.str "jump")) (.one (.con (.int 3)) (.one (.con (.int 200)) .nil)))) (.one (.tup (.one (.con (.str "goto")) (.one (.con (.int 0)) .nil))) (.one (.tup (.one (.con (.str "goto")) (.one (.con (.int 99)) .nil))) (.one (.tup (.one (.con (.str "goto")) (.one (.con (.int 100)) .nil))) .nil))))))))
def c__law_long_right_s3 : CS :=
    (.asg (.nam 1) (.bin .add (.var 1) (.bin .mul (.lst (.one (.tup (.one (.con (.str "add")) (.one (.con (.int 7)) (.one (.con (.int 6)) (.one (.con (.int 5)) .nil))))) (.one (.tup (.one (.con (.str "set")) (.one (.con (.int 2)) (.one (.bin .pow (.con (.int 10)) (.con (.int 60))) .nil)))) .nil))) (.con (.int 97)))))
def c__law_long_right_s4 : CS :=
    (.asg (.nam 2) (.bmt .join (.con (.str "\n")) (.one c__law_long_right_k1 .nil)))
def c__law_long_right_s5 : CS :=
    (.ite (.or (.cmp .ne (.blt .len (.one (.var 1) .nil)) (.con (.int 200))) (.cmp .ne (.cal 12 (.one (.mak 0 (.one (.var 1) .nil)) .nil)) (.var 2))) (.cons (.ret (.con (.bl false)))
    .nil) .nil)
def c__law_long_right_s6 : CS :=
    (.ret (.and (.cmp .eq (.cal 16 (.one (.var 2) .nil)) (.mak 0 (.one (.var 1) .nil))) (.cmp .eq (.cal 18 (.one (.var 2) .nil)) (.mak 0 (.one (.var 1) .nil)))))
def c__law_long_right : Def := ⟨0, 4,
    (.cons c__law_long_right_s1 (.cons c__law_long_right_s2 (.cons c__law_long_right_s3 (.cons c__law_long_right_s4 (.cons c__law_long_right_s5 (.cons c__law_long_right_s6 .nil))))))⟩
def c_law_k1 : CE :=
    (.com [8] (.nam 8) (.seq (.var 5)) .no (.cal 21 (.one (.var 8) .nil)))
def c_law_b2s1 : CS :=
    (.ite (.or (.cmp .ne (.var 6) (.var 7)) (.cmp .ne (.blt .repr (.one (.att (.var 6) 6) .nil)) (.blt .repr (.one (.blt .tuple (.one (.var 5) .nil)) .nil)))) (.cons (.ret (.con (.bl false)))
    .nil) .nil)
def c_law_b2 : CSs :=
    (.cons c_law_b2s1 .nil)
def c_law_b1s1 : CS :=
    (.asg (.nam 4) (.cal 19 (.one (.var 0) (.one (.var 3) .nil))))
def c_law_b1s2 : CS :=
    (.asg (.nam 5) (.cal 22 (.one (.var 4) (.one (.cal 20 (.one (.var 4) (.one (.con (.int 21)) .nil))) .nil))))
def c_law_b1s3 : CS :=
    (.asg (.tup (.cons (.nam 7) (.cons (.nam 2) .nil))) (.tup (.one (.mak 0 (.one (.var 5) .nil)) (.one (.bmt .join (.con (.str "\n")) (.one c_law_k1 .nil)) .nil))))
def c_law_b1s4 : CS :=
    (.ite (.or (.cmp .ne (.cal 12 (.one (.var 7) .nil)) (.var 2)) (.cmp .ne (.cal 12 (.one (.var 7) .nil)) (.var 2))) (.cons (.ret (.con (.bl false)))
    .nil) .nil)
def c_law_b1s5 : CS :=
    (.for_ (.nam 6) (.seq (.lst (.one (.cal 16 (.one (.var 2) .nil)) (.one (.cal 18 (.one (.var 2) .nil)) .nil)))) c_law_b2)
def c_law_b1 : CSs :=
    (.cons c_law_b1s1 (.cons c_law_b1s2 (.cons c_law_b1s3 (.cons c_law_b1s4 (.cons c_law_b1s5 .nil)))))
def c_law_s1 : CS :=
    (.ite (.or (.cmp .ne (.cal 12 (.one (.mak 0 (.one (.lst .nil) .nil)) .nil)) (.con (.str ""))) (.or (.cmp .ne (.cal 16 (.one (.con (.str "")) .nil)) (.mak 0 (.one (.lst .nil) .nil))) (.cmp .ne (.cal 18 (.one (.con (.str "")) .nil)) (.mak 0 (.one (.lst .nil) .nil))))) (.cons (.ret (.con (.bl false)))
    .nil) .nil)
def c_law_s2 : CS :=
    (.asg (.nam 1) (.lst (.one (.tup (.one (.con (.str "set")) (.one (.con (.int 2)) (.one (.neg (.con (.int 5))) .nil)))) (.one (.tup (.one (.con (.str "move")) (.one (.con (.int 1)) (.one (.con (.int 0)) (.one (.con (.int 2)) .nil))))) (.one (.tup (.one (.con (.str "pick")) (.one (.con (.int 3)) (.one (.con (.int 0)) (.one (.con (.int 1)) (.one (.con (.int 2)) .nil)))))) (.one (.tup (.one (.con (.str "less")) (.one (.con (.int 1)) (.one (.con (.int 0)) (.one (.con (.int 2)) .nil))))) (.one (.tup (.one (.con (.str "jump")) (.one (.con (.int 0)) (.one (.con (.int 7)) .nil)))) .nil)))))))
def c_law_s3 : CS :=
    (.asg (.nam 1) (.bin .add (.var 1) (.lst (.one (.tup (.one (.con (.str "goto")) (.one (.con (.int 1)) .nil))) .nil))))
def c_law_s4 : CS :=
    (.asg (.nam 2) (.con (.str "set r2 -5\nmove r1 r0 2\npick r3 f0 r1 r2\nless f1 r0 r2\njump f0 7\ngoto 1\nset r0 0")))
def c_law_s5 : CS :=
    (.ite (.cmp .ne (.cal 12 (.one (.mak 0 (.one (.bin .add (.var 1) (.lst (.one (.tup (.one (.con (.str "set")) (.one (.con (.int 0)) (.one (.con (.int 0)) .nil)))) .nil))) .nil)) .nil)) (.var 2)) (.cons (.ret (.con (.bl false)))
    .nil) .nil)
def c_law_s6 : CS :=
    (.ite (.cmp .ne (.idx (.cal 16 (.one (.var 2) .nil)) (.con (.int 4))) (.tup (.one (.con (.str "jump")) (.one (.con (.int 0)) (.one (.con (.int 7)) .nil))))) (.cons (.ret (.con (.bl false)))
    .nil) .nil)
def c_law_s7 : CS :=
    (.ite (.not (.cal 23 .nil)) (.cons (.ret (.con (.bl false)))
    .nil) .nil)
def c_law_s8 : CS :=
    (.for_ (.nam 3) (.rng (.blt .max (.one (.con (.int 1)) (.one (.blt .min (.one (.con (.int 10)) (.one (.blt .len (.one (.var 0) .nil)) .nil))) .nil)))) c_law_b1)
def c_law_s9 : CS :=
    (.ret (.con (.bl true)))
def c_law : Def := ⟨1, 9,
    (.cons c_law_s1 (.cons c_law_s2 (.cons c_law_s3 (.cons c_law_s4 (.cons c_law_s5 (.cons c_law_s6 (.cons c_law_s7 (.cons c_law_s8 (.cons c_law_s9 .nil)))))))))⟩
def L : Ld := {
  cn := [("Program", [4, 5])]
  an := ["__eq__", "__len__", "__getitem__", "__add__", "lines", "straight", "instructions", "__init__"]
  fn := ["is_integer", "is_between", "check_between", "fits", "is_instruction", "is_within", "shifted", "is_name", "parse_count", "parse_integer", "format_item", "format_instruction", "format_program", "parse_item", "parse_instruction", "lines_of", "parse_program", "named_target", "assemble", "_law_pool", "_law_take", "_law_text", "_law_any_code", "_law_long_right", "law"]
  gv := [("REGISTERS", (.int 8)), ("FLAGS", (.int 4)), ("MOST_INSTRUCTIONS", (.int 200)), ("MOST_PLACES", (.int 40)), ("LETTERS", (.str "abcdefghijklmnopqrstuvwxyz")), ("MOST_LETTERS", (.int 8)), ("DIGITS", (.str "0123456789")), ("MOST_DIGITS", (.int 200))]
  gd := [("FORMS", [("set", (.str "ri")), ("add", (.str "rrr")), ("sub", (.str "rrr")), ("move", (.str "rrp")), ("pick", (.str "rfrr")), ("less", (.str "frr")), ("same", (.str "frr")), ("jump", (.str "ft")), ("goto", (.str "t"))])]
  isc := [0]
  fuel := 100000 }
def C0 : SX.Ctx := L.C
def D_is_integer : Dd := ⟨.fn "is_integer", "is_integer", "is_integer", defArgs (top 7), defBody (top 7), defScope (top 7), []⟩
def n_is_integer : List Str := ["value"]
def C1 : SX.Ctx := C0.addF 0 1 (c_is_integer.sem C0)
def D_is_between : Dd := ⟨.fn "is_between", "is_between", "is_between", defArgs (top 8), defBody (top 8), defScope (top 8), []⟩
def n_is_between : List Str := ["value", "low", "high"]
def C2 : SX.Ctx := C1.addF 1 3 (c_is_between.sem C1)
def D_check_between : Dd := ⟨.fn "check_between", "check_between", "check_between", defArgs (top 9), defBody (top 9), defScope (top 9), []⟩
def n_check_between : List Str := ["value", "low", "high"]
def C3 : SX.Ctx := C2.addF 2 3 (c_check_between.sem C2)
def D_fits : Dd := ⟨.fn "fits", "fits", "fits", defArgs (top 16), defBody (top 16), defScope (top 16), []⟩
def n_fits : List Str := ["kind", "value"]
def C4 : SX.Ctx := C3.addF 3 2 (c_fits.sem C3)
def D_is_instruction : Dd := ⟨.fn "is_instruction", "is_instruction", "is_instruction", defArgs (top 17), defBody (top 17), defScope (top 17), []⟩
def n_is_instruction : List Str := ["value", "form", "kind", "item"]
def C5 : SX.Ctx := C4.addF 4 1 (c_is_instruction.sem C4)
def D_is_within : Dd := ⟨.fn "is_within", "is_within", "is_within", defArgs (top 18), defBody (top 18), defScope (top 18), []⟩
def n_is_within : List Str := ["value", "size"]
def C6 : SX.Ctx := C5.addF 5 2 (c_is_within.sem C5)
def D_shifted : Dd := ⟨.fn "shifted", "shifted", "shifted", defArgs (top 19), defBody (top 19), defScope (top 19), []⟩
def n_shifted : List Str := ["instruction", "places"]
def C7 : SX.Ctx := C6.addF 6 2 (c_shifted.sem C6)
def D_Program_init : Dd := ⟨.mt "Program" "__init__", "__init__", "Program.__init__", defArgs (inClass (top 20) 0), defBody (inClass (top 20) 0), defScope (inClass (top 20) 0), []⟩
def n_Program_init : List Str := ["self", "instructions", "value", "line"]
def C8 : SX.Ctx := C7.addI 0 1 (c_Program_init.sem C7)
def D_Program_add : Dd := ⟨.mt "Program" "__add__", "__add__", "Program.__add__", defArgs (inClass (top 20) 7), defBody (inClass (top 20) 7), defScope (inClass (top 20) 7), []⟩
def n_Program_add : List Str := ["self", "other", "size", "line"]
def C9 : SX.Ctx := C8.addM 0 3 1 (c_Program_add.sem C8)
def D_Program_eq : Dd := ⟨.mt "Program" "__eq__", "__eq__", "Program.__eq__", defArgs (inClass (top 20) 4), defBody (inClass (top 20) 4), defScope (inClass (top 20) 4), []⟩
def n_Program_eq : List Str := ["self", "other"]
def C10 : SX.Ctx := C9.addM 0 0 1 (c_Program_eq.sem C9)
def D_Program_getitem : Dd := ⟨.mt "Program" "__getitem__", "__getitem__", "Program.__getitem__", defArgs (inClass (top 20) 5), defBody (inClass (top 20) 5), defScope (inClass (top 20) 5), []⟩
def n_Program_getitem : List Str := ["self", "index"]
def C11 : SX.Ctx := C10.addM 0 2 1 (c_Program_getitem.sem C10)
def D_Program_len : Dd := ⟨.mt "Program" "__len__", "__len__", "Program.__len__", defArgs (inClass (top 20) 3), defBody (inClass (top 20) 3), defScope (inClass (top 20) 3), []⟩
def n_Program_len : List Str := ["self"]
def C12 : SX.Ctx := C11.addM 0 1 0 (c_Program_len.sem C11)
def D_Program_instructions : Dd := ⟨.pr "Program" "instructions", "instructions", "Program.instructions", defArgs (inClass (top 20) 1), defBody (inClass (top 20) 1), defScope (inClass (top 20) 1), []⟩
def n_Program_instructions : List Str := ["self"]
def C13 : SX.Ctx := C12.addP 0 6 (c_Program_instructions.sem C12)
def D_is_name : Dd := ⟨.fn "is_name", "is_name", "is_name", defArgs (top 24), defBody (top 24), defScope (top 24), []⟩
def n_is_name : List Str := ["value", "sign"]
def C14 : SX.Ctx := C13.addF 7 1 (c_is_name.sem C13)
def D_parse_count : Dd := ⟨.fn "parse_count", "parse_count", "parse_count", defArgs (top 28), defBody (top 28), defScope (top 28), []⟩
def n_parse_count : List Str := ["text", "sign"]
def C15 : SX.Ctx := C14.addF 8 1 (c_parse_count.sem C14)
def D_parse_integer : Dd := ⟨.fn "parse_integer", "parse_integer", "parse_integer", defArgs (top 29), defBody (top 29), defScope (top 29), []⟩
def n_parse_integer : List Str := ["text", "number"]
def C16 : SX.Ctx := C15.addF 9 1 (c_parse_integer.sem C15)
def D_format_item : Dd := ⟨.fn "format_item", "format_item", "format_item", defArgs (top 30), defBody (top 30), defScope (top 30), []⟩
def n_format_item : List Str := ["kind", "item"]
def C17 : SX.Ctx := C16.addF 10 2 (c_format_item.sem C16)
def D_format_instruction : Dd := ⟨.fn "format_instruction", "format_instruction", "format_instruction", defArgs (top 31), defBody (top 31), defScope (top 31), []⟩
def n_format_instruction : List Str := ["instruction", "form", "kind", "item"]
def C18 : SX.Ctx := C17.addF 11 1 (c_format_instruction.sem C17)
def D_format_program : Dd := ⟨.fn "format_program", "format_program", "format_program", defArgs (top 32), defBody (top 32), defScope (top 32), []⟩
def n_format_program : List Str := ["program", "item"]
def C19 : SX.Ctx := C18.addF 12 1 (c_format_program.sem C18)
def D_parse_item : Dd := ⟨.fn "parse_item", "parse_item", "parse_item", defArgs (top 33), defBody (top 33), defScope (top 33), []⟩
def n_parse_item : List Str := ["kind", "word"]
def C20 : SX.Ctx := C19.addF 13 2 (c_parse_item.sem C19)
def D_parse_instruction : Dd := ⟨.fn "parse_instruction", "parse_instruction", "parse_instruction", defArgs (top 34), defBody (top 34), defScope (top 34), []⟩
def n_parse_instruction : List Str := ["line", "items", "word", "words", "kind", "item"]
def C21 : SX.Ctx := C20.addF 14 1 (c_parse_instruction.sem C20)
def D_lines_of : Dd := ⟨.fn "lines_of", "lines_of", "lines_of", defArgs (top 35), defBody (top 35), defScope (top 35), []⟩
def n_lines_of : List Str := ["text"]
def C22 : SX.Ctx := C21.addF 15 1 (c_lines_of.sem C21)
def D_parse_program : Dd := ⟨.fn "parse_program", "parse_program", "parse_program", defArgs (top 36), defBody (top 36), defScope (top 36), []⟩
def n_parse_program : List Str := ["text", "result", "index", "line", "instruction"]
def C23 : SX.Ctx := C22.addF 16 1 (c_parse_program.sem C22)
def D_named_target : Dd := ⟨.fn "named_target", "named_target", "named_target", defArgs (top 37), defBody (top 37), defScope (top 37), []⟩
def n_named_target : List Str := ["line", "word", "words"]
def C24 : SX.Ctx := C23.addF 17 1 (c_named_target.sem C23)
def D_assemble : Dd := ⟨.fn "assemble", "assemble", "assemble", defArgs (top 38), defBody (top 38), defScope (top 38), []⟩
def n_assemble : List Str := ["text", "result", "labels", "found", "index", "line", "instruction", "name", "plain"]
def C25 : SX.Ctx := C24.addF 18 1 (c_assemble.sem C24)
def D__law_pool : Dd := ⟨.fn "_law_pool", "_law_pool", "_law_pool", defArgs (top 40), defBody (top 40), defScope (top 40), []⟩
def n__law_pool : List Str := ["_law_script", "_law_k", "_law_cell", "_law_mixed"]
def C26 : SX.Ctx := C25.addF 19 2 (c__law_pool.sem C25)
def D__law_take : Dd := ⟨.fn "_law_take", "_law_take", "_law_take", defArgs (top 41), defBody (top 41), defScope (top 41), []⟩
def n__law_take : List Str := ["_law_pool_here", "_law_count", "_law_result"]
def C27 : SX.Ctx := C26.addF 20 2 (c__law_take.sem C26)
def D__law_text : Dd := ⟨.fn "_law_text", "_law_text", "_law_text", defArgs (top 42), defBody (top 42), defScope (top 42), []⟩
def n__law_text : List Str := ["_law_line", "_law_kinds", "_law_words", "_law_kind", "_law_item"]
def C28 : SX.Ctx := C27.addF 21 1 (c__law_text.sem C27)
def D__law_any_code : Dd := ⟨.fn "_law_any_code", "_law_any_code", "_law_any_code", defArgs (top 43), defBody (top 43), defScope (top 43), []⟩
def n__law_any_code : List Str := ["_law_pool_here", "_law_many", "_law_found", "_law_turn", "_law_way", "_law_some", "_law_a", "_law_b", "_law_flag", "_law_word"]
def C29 : SX.Ctx := C28.addF 22 2 (c__law_any_code.sem C28)
def D__law_long_right : Dd := ⟨.fn "_law_long_right", "_law_long_right", "_law_long_right", defArgs (top 44), defBody (top 44), defScope (top 44), []⟩
def n__law_long_right : List Str := ["_law_great", "_law_code", "_law_text_here", "_law_line"]
def C30 : SX.Ctx := C29.addF 23 0 (c__law_long_right.sem C29)
def D_law : Dd := ⟨.fn "law", "law", "law", defArgs (top 45), defBody (top 45), defScope (top 45), []⟩
def n_law : List Str := ["_law_script", "_law_known", "_law_text_here", "_law_k", "_law_pool_here", "_law_code", "_law_found", "_law_program", "_law_line"]
def fk : List Fk := [.fn "is_integer", .fn "is_between", .fn "check_between", .fn "fits", .fn "is_instruction", .fn "is_within", .fn "shifted", .mk "Program", .mt "Program" "__add__", .dn "Program" "__add__", .ne "Program", .mt "Program" "__eq__", .dn "Program" "__eq__", .mt "Program" "__getitem__", .dn "Program" "__getitem__", .mt "Program" "__len__", .dn "Program" "__len__", .pr "Program" "instructions", .fn "is_name", .fn "parse_count", .fn "parse_integer", .fn "format_item", .fn "format_instruction", .fn "format_program", .fn "parse_item", .fn "parse_instruction", .fn "lines_of", .fn "parse_program", .fn "named_target", .fn "assemble", .fn "_law_pool", .fn "_law_take", .fn "_law_text", .fn "_law_any_code", .fn "_law_long_right", .fn "law"]
def ds : List Dd := [D_is_integer, D_is_between, D_check_between, D_fits, D_is_instruction, D_is_within, D_shifted, D_Program_init, D_Program_add, D_Program_eq, D_Program_getitem, D_Program_len, D_Program_instructions, D_is_name, D_parse_count, D_parse_integer, D_format_item, D_format_instruction, D_format_program, D_parse_item, D_parse_instruction, D_lines_of, D_parse_program, D_named_target, D_assemble, D__law_pool, D__law_take, D__law_text, D__law_any_code, D__law_long_right, D_law]
section
variable {P : Program} {w : World} {K : PySem.W.Frag} {mg : Str → Option Value} {base h : Heap}
theorem sc_is_integer : FnScope n_is_integer ["value"] (defScope (top 7)) := ⟨rfl, rfl, rfl, by decide +kernel, rfl, by decide +kernel, by decide +kernel⟩
theorem chk_is_integer : chkSs (L.T K) C0 L.B ⟨n_is_integer, defScope (top 7), fun _ => true⟩ c_is_integer.body (defBody (top 7)) = true := by kernel_rfl
theorem fn_is_integer (c : obsK L fk ds K = valS L ds w) (g : GoodS P w K mg base (L.T K) C0 L.B 0) : FnS' P w K mg base (L.T K) 2 (At.ad K (.fn "is_integer")) 1 (c_is_integer.sem C0) := by
  obtain ⟨fd, F⟩ := says_def c 0 (d := D_is_integer) rfl
  have F : FunD K "is_integer" "is_integer" (defArgs (top 7)) (defBody (top 7)) (defScope (top 7)) [] [] (At.ad K (.fn "is_integer")) fd := F
  have hb : Binds K fd ["value"] [] := F.bindsN fun _ _ _ _ _ _ us hl => match us, hl with | [_], _ => rfl
  exact def_ok F hb sc_is_integer c_is_integer rfl rfl (by decide) chk_is_integer g
theorem st_is_integer (KX : K.In h) (G : h.Ns mainGlobals mg) (c : obsK L fk ds K = valS L ds w) (g : GoodS P w K mg base (L.T K) C0 L.B 0) : GoodS P w K mg base (L.T K) C1 L.B 2 :=
  have H := fn_is_integer c g
  g.addF (f := 0) (n := 1) (fk_fn KX G (says_fk c 0 (f := .fn "is_integer") rfl)).1 (fk_fn KX G (says_fk c 0 (f := .fn "is_integer") rfl)).2 H rfl
theorem sc_is_between : FnScope n_is_between ["value", "low", "high"] (defScope (top 8)) := ⟨rfl, rfl, rfl, by decide +kernel, rfl, by decide +kernel, by decide +kernel⟩
theorem chk_is_between : chkSs (L.T K) C1 L.B ⟨n_is_between, defScope (top 8), fun _ => true⟩ c_is_between.body (defBody (top 8)) = true := by kernel_rfl
theorem fn_is_between (c : obsK L fk ds K = valS L ds w) (g : GoodS P w K mg base (L.T K) C1 L.B 2) : FnS' P w K mg base (L.T K) 4 (At.ad K (.fn "is_between")) 3 (c_is_between.sem C1) := by
  obtain ⟨fd, F⟩ := says_def c 1 (d := D_is_between) rfl
  have F : FunD K "is_between" "is_between" (defArgs (top 8)) (defBody (top 8)) (defScope (top 8)) [] [] (At.ad K (.fn "is_between")) fd := F
  have hb : Binds K fd ["value", "low", "high"] [] := F.bindsN fun _ _ _ _ _ _ us hl => match us, hl with | [_, _, _], _ => rfl
  exact def_ok F hb sc_is_between c_is_between rfl rfl (by decide) chk_is_between g
theorem st_is_between (KX : K.In h) (G : h.Ns mainGlobals mg) (c : obsK L fk ds K = valS L ds w) (g : GoodS P w K mg base (L.T K) C1 L.B 2) : GoodS P w K mg base (L.T K) C2 L.B 4 :=
  have H := fn_is_between c g
  g.addF (f := 1) (n := 3) (fk_fn KX G (says_fk c 1 (f := .fn "is_between") rfl)).1 (fk_fn KX G (says_fk c 1 (f := .fn "is_between") rfl)).2 H rfl
theorem sc_check_between : FnScope n_check_between ["value", "low", "high"] (defScope (top 9)) := ⟨rfl, rfl, rfl, by decide +kernel, rfl, by decide +kernel, by decide +kernel⟩
theorem chk_check_between : chkSs (L.T K) C2 L.B ⟨n_check_between, defScope (top 9), fun _ => true⟩ c_check_between.body (defBody (top 9)) = true := by kernel_rfl
theorem fn_check_between (c : obsK L fk ds K = valS L ds w) (g : GoodS P w K mg base (L.T K) C2 L.B 4) : FnS' P w K mg base (L.T K) 6 (At.ad K (.fn "check_between")) 3 (c_check_between.sem C2) := by
  obtain ⟨fd, F⟩ := says_def c 2 (d := D_check_between) rfl
  have F : FunD K "check_between" "check_between" (defArgs (top 9)) (defBody (top 9)) (defScope (top 9)) [] [] (At.ad K (.fn "check_between")) fd := F
  have hb : Binds K fd ["value", "low", "high"] [] := F.bindsN fun _ _ _ _ _ _ us hl => match us, hl with | [_, _, _], _ => rfl
  exact def_ok F hb sc_check_between c_check_between rfl rfl (by decide) chk_check_between g
theorem st_check_between (KX : K.In h) (G : h.Ns mainGlobals mg) (c : obsK L fk ds K = valS L ds w) (g : GoodS P w K mg base (L.T K) C2 L.B 4) : GoodS P w K mg base (L.T K) C3 L.B 6 :=
  have H := fn_check_between c g
  g.addF (f := 2) (n := 3) (fk_fn KX G (says_fk c 2 (f := .fn "check_between") rfl)).1 (fk_fn KX G (says_fk c 2 (f := .fn "check_between") rfl)).2 H rfl
theorem sc_fits : FnScope n_fits ["kind", "value"] (defScope (top 16)) := ⟨rfl, rfl, rfl, by decide +kernel, rfl, by decide +kernel, by decide +kernel⟩
theorem chk_fits : chkSs (L.T K) C3 L.B ⟨n_fits, defScope (top 16), fun _ => true⟩ c_fits.body (defBody (top 16)) = true := by kernel_rfl
theorem fn_fits (c : obsK L fk ds K = valS L ds w) (g : GoodS P w K mg base (L.T K) C3 L.B 6) : FnS' P w K mg base (L.T K) 8 (At.ad K (.fn "fits")) 2 (c_fits.sem C3) := by
  obtain ⟨fd, F⟩ := says_def c 3 (d := D_fits) rfl
  have F : FunD K "fits" "fits" (defArgs (top 16)) (defBody (top 16)) (defScope (top 16)) [] [] (At.ad K (.fn "fits")) fd := F
  have hb : Binds K fd ["kind", "value"] [] := F.bindsN fun _ _ _ _ _ _ us hl => match us, hl with | [_, _], _ => rfl
  exact def_ok F hb sc_fits c_fits rfl rfl (by decide) chk_fits g
theorem st_fits (KX : K.In h) (G : h.Ns mainGlobals mg) (c : obsK L fk ds K = valS L ds w) (g : GoodS P w K mg base (L.T K) C3 L.B 6) : GoodS P w K mg base (L.T K) C4 L.B 8 :=
  have H := fn_fits c g
  g.addF (f := 3) (n := 2) (fk_fn KX G (says_fk c 3 (f := .fn "fits") rfl)).1 (fk_fn KX G (says_fk c 3 (f := .fn "fits") rfl)).2 H rfl
theorem sc_is_instruction : FnScope n_is_instruction ["value"] (defScope (top 17)) := ⟨rfl, rfl, rfl, by decide +kernel, rfl, by decide +kernel, by decide +kernel⟩
theorem chk_is_instruction : chkSs (L.T K) C4 L.B ⟨n_is_instruction, defScope (top 17), fun _ => true⟩ c_is_instruction.body (defBody (top 17)) = true := by kernel_rfl
theorem fn_is_instruction (c : obsK L fk ds K = valS L ds w) (g : GoodS P w K mg base (L.T K) C4 L.B 8) : FnS' P w K mg base (L.T K) 10 (At.ad K (.fn "is_instruction")) 1 (c_is_instruction.sem C4) := by
  obtain ⟨fd, F⟩ := says_def c 4 (d := D_is_instruction) rfl
  have F : FunD K "is_instruction" "is_instruction" (defArgs (top 17)) (defBody (top 17)) (defScope (top 17)) [] [] (At.ad K (.fn "is_instruction")) fd := F
  have hb : Binds K fd ["value"] [] := F.bindsN fun _ _ _ _ _ _ us hl => match us, hl with | [_], _ => rfl
  exact def_ok F hb sc_is_instruction c_is_instruction rfl rfl (by decide) chk_is_instruction g
theorem st_is_instruction (KX : K.In h) (G : h.Ns mainGlobals mg) (c : obsK L fk ds K = valS L ds w) (g : GoodS P w K mg base (L.T K) C4 L.B 8) : GoodS P w K mg base (L.T K) C5 L.B 10 :=
  have H := fn_is_instruction c g
  g.addF (f := 4) (n := 1) (fk_fn KX G (says_fk c 4 (f := .fn "is_instruction") rfl)).1 (fk_fn KX G (says_fk c 4 (f := .fn "is_instruction") rfl)).2 H rfl
theorem sc_is_within : FnScope n_is_within ["value", "size"] (defScope (top 18)) := ⟨rfl, rfl, rfl, by decide +kernel, rfl, by decide +kernel, by decide +kernel⟩
theorem chk_is_within : chkSs (L.T K) C5 L.B ⟨n_is_within, defScope (top 18), fun _ => true⟩ c_is_within.body (defBody (top 18)) = true := by kernel_rfl
theorem fn_is_within (c : obsK L fk ds K = valS L ds w) (g : GoodS P w K mg base (L.T K) C5 L.B 10) : FnS' P w K mg base (L.T K) 12 (At.ad K (.fn "is_within")) 2 (c_is_within.sem C5) := by
  obtain ⟨fd, F⟩ := says_def c 5 (d := D_is_within) rfl
  have F : FunD K "is_within" "is_within" (defArgs (top 18)) (defBody (top 18)) (defScope (top 18)) [] [] (At.ad K (.fn "is_within")) fd := F
  have hb : Binds K fd ["value", "size"] [] := F.bindsN fun _ _ _ _ _ _ us hl => match us, hl with | [_, _], _ => rfl
  exact def_ok F hb sc_is_within c_is_within rfl rfl (by decide) chk_is_within g
theorem st_is_within (KX : K.In h) (G : h.Ns mainGlobals mg) (c : obsK L fk ds K = valS L ds w) (g : GoodS P w K mg base (L.T K) C5 L.B 10) : GoodS P w K mg base (L.T K) C6 L.B 12 :=
  have H := fn_is_within c g
  g.addF (f := 5) (n := 2) (fk_fn KX G (says_fk c 5 (f := .fn "is_within") rfl)).1 (fk_fn KX G (says_fk c 5 (f := .fn "is_within") rfl)).2 H rfl
theorem sc_shifted : FnScope n_shifted ["instruction", "places"] (defScope (top 19)) := ⟨rfl, rfl, rfl, by decide +kernel, rfl, by decide +kernel, by decide +kernel⟩
theorem chk_shifted : chkSs (L.T K) C6 L.B ⟨n_shifted, defScope (top 19), fun _ => true⟩ c_shifted.body (defBody (top 19)) = true := by kernel_rfl
theorem fn_shifted (c : obsK L fk ds K = valS L ds w) (g : GoodS P w K mg base (L.T K) C6 L.B 12) : FnS' P w K mg base (L.T K) 14 (At.ad K (.fn "shifted")) 2 (c_shifted.sem C6) := by
  obtain ⟨fd, F⟩ := says_def c 6 (d := D_shifted) rfl
  have F : FunD K "shifted" "shifted" (defArgs (top 19)) (defBody (top 19)) (defScope (top 19)) [] [] (At.ad K (.fn "shifted")) fd := F
  have hb : Binds K fd ["instruction", "places"] [] := F.bindsN fun _ _ _ _ _ _ us hl => match us, hl with | [_, _], _ => rfl
  exact def_ok F hb sc_shifted c_shifted rfl rfl (by decide) chk_shifted g
theorem st_shifted (KX : K.In h) (G : h.Ns mainGlobals mg) (c : obsK L fk ds K = valS L ds w) (g : GoodS P w K mg base (L.T K) C6 L.B 12) : GoodS P w K mg base (L.T K) C7 L.B 14 :=
  have H := fn_shifted c g
  g.addF (f := 6) (n := 2) (fk_fn KX G (says_fk c 6 (f := .fn "shifted") rfl)).1 (fk_fn KX G (says_fk c 6 (f := .fn "shifted") rfl)).2 H rfl
theorem sc_Program_init : FnScope n_Program_init ["self", "instructions"] (defScope (inClass (top 20) 0)) := ⟨rfl, rfl, rfl, by decide +kernel, rfl, by decide +kernel, by decide +kernel⟩
theorem chk_Program_init : chkSs (L.T K) C7 L.B ⟨n_Program_init, defScope (inClass (top 20) 0), fun _ => true⟩ c_Program_init.body (defBody (inClass (top 20) 0)) = true := by kernel_rfl
theorem fn_Program_init (c : obsK L fk ds K = valS L ds w) (g : GoodS P w K mg base (L.T K) C7 L.B 14) : FnS' P w K mg base (L.T K) 16 (At.ad K (.mt "Program" "__init__")) 2 (c_Program_init.sem C7) := by
  obtain ⟨fd, F⟩ := says_def c 7 (d := D_Program_init) rfl
  have F : FunD K "__init__" "Program.__init__" (defArgs (inClass (top 20) 0)) (defBody (inClass (top 20) 0)) (defScope (inClass (top 20) 0)) [] [] (At.ad K (.mt "Program" "__init__")) fd := F
  have hb : Binds K fd ["self", "instructions"] [] := F.bindsN fun _ _ _ _ _ _ us hl => match us, hl with | [_, _], _ => rfl
  exact def_ok F hb sc_Program_init c_Program_init rfl rfl (by decide) chk_Program_init g
theorem st_Program_init (KX : K.In h) (G : h.Ns mainGlobals mg) (c : obsK L fk ds K = valS L ds w) (g : GoodS P w K mg base (L.T K) C7 L.B 14) : GoodS P w K mg base (L.T K) C8 L.B 16 :=
  have H := fn_Program_init c g
  g.addI (c := 0) (n := 1) (fk_mk KX G (says_fk c 7 (f := .mk "Program") rfl)).1 (fk_mk KX G (says_fk c 7 (f := .mk "Program") rfl)).2 H rfl
theorem sc_Program_add : FnScope n_Program_add ["self", "other"] (defScope (inClass (top 20) 7)) := ⟨rfl, rfl, rfl, by decide +kernel, rfl, by decide +kernel, by decide +kernel⟩
theorem chk_Program_add : chkSs (L.T K) C8 L.B ⟨n_Program_add, defScope (inClass (top 20) 7), fun _ => true⟩ c_Program_add.body (defBody (inClass (top 20) 7)) = true := by kernel_rfl
theorem fn_Program_add (c : obsK L fk ds K = valS L ds w) (g : GoodS P w K mg base (L.T K) C8 L.B 16) : FnS' P w K mg base (L.T K) 18 (At.ad K (.mt "Program" "__add__")) 2 (c_Program_add.sem C8) := by
  obtain ⟨fd, F⟩ := says_def c 8 (d := D_Program_add) rfl
  have F : FunD K "__add__" "Program.__add__" (defArgs (inClass (top 20) 7)) (defBody (inClass (top 20) 7)) (defScope (inClass (top 20) 7)) [] [] (At.ad K (.mt "Program" "__add__")) fd := F
  have hb : Binds K fd ["self", "other"] [] := F.bindsN fun _ _ _ _ _ _ us hl => match us, hl with | [_, _], _ => rfl
  exact def_ok F hb sc_Program_add c_Program_add rfl rfl (by decide) chk_Program_add g
theorem st_Program_add (KX : K.In h) (G : h.Ns mainGlobals mg) (c : obsK L fk ds K = valS L ds w) (g : GoodS P w K mg base (L.T K) C8 L.B 16) : GoodS P w K mg base (L.T K) C9 L.B 18 :=
  have H := fn_Program_add c g
  g.addM (c := 0) (m := 3) (n := 1) (fk_mt (says_fk c 8 (f := .mt "Program" "__add__") rfl)).1 (by show (L.an.getD 3 Str.empty) ∉ (L.flds 0).map (fun a => L.an.getD a Str.empty); decide +kernel) (fk_mt (says_fk c 8 (f := .mt "Program" "__add__") rfl)).2 H rfl (fun _ => says_fk c 9 (f := .dn "Program" "__add__") rfl) (fun _ => fk_ne (says_fk c 10 (f := .ne "Program") rfl)) ⟨rfl, rfl, rfl, rfl⟩
theorem sc_Program_eq : FnScope n_Program_eq ["self", "other"] (defScope (inClass (top 20) 4)) := ⟨rfl, rfl, rfl, by decide +kernel, rfl, by decide +kernel, by decide +kernel⟩
theorem chk_Program_eq : chkSs (L.T K) C9 L.B ⟨n_Program_eq, defScope (inClass (top 20) 4), fun _ => true⟩ c_Program_eq.body (defBody (inClass (top 20) 4)) = true := by kernel_rfl
theorem fn_Program_eq (c : obsK L fk ds K = valS L ds w) (g : GoodS P w K mg base (L.T K) C9 L.B 18) : FnS' P w K mg base (L.T K) 20 (At.ad K (.mt "Program" "__eq__")) 2 (c_Program_eq.sem C9) := by
  obtain ⟨fd, F⟩ := says_def c 9 (d := D_Program_eq) rfl
  have F : FunD K "__eq__" "Program.__eq__" (defArgs (inClass (top 20) 4)) (defBody (inClass (top 20) 4)) (defScope (inClass (top 20) 4)) [] [] (At.ad K (.mt "Program" "__eq__")) fd := F
  have hb : Binds K fd ["self", "other"] [] := F.bindsN fun _ _ _ _ _ _ us hl => match us, hl with | [_, _], _ => rfl
  exact def_ok F hb sc_Program_eq c_Program_eq rfl rfl (by decide) chk_Program_eq g
theorem st_Program_eq (KX : K.In h) (G : h.Ns mainGlobals mg) (c : obsK L fk ds K = valS L ds w) (g : GoodS P w K mg base (L.T K) C9 L.B 18) : GoodS P w K mg base (L.T K) C10 L.B 20 :=
  have H := fn_Program_eq c g
  g.addM (c := 0) (m := 0) (n := 1) (fk_mt (says_fk c 11 (f := .mt "Program" "__eq__") rfl)).1 (by show (L.an.getD 0 Str.empty) ∉ (L.flds 0).map (fun a => L.an.getD a Str.empty); decide +kernel) (fk_mt (says_fk c 11 (f := .mt "Program" "__eq__") rfl)).2 H rfl (fun _ => says_fk c 12 (f := .dn "Program" "__eq__") rfl) (fun _ => fk_ne (says_fk c 10 (f := .ne "Program") rfl)) ⟨rfl, rfl, rfl, rfl⟩
theorem sc_Program_getitem : FnScope n_Program_getitem ["self", "index"] (defScope (inClass (top 20) 5)) := ⟨rfl, rfl, rfl, by decide +kernel, rfl, by decide +kernel, by decide +kernel⟩
theorem chk_Program_getitem : chkSs (L.T K) C10 L.B ⟨n_Program_getitem, defScope (inClass (top 20) 5), fun _ => true⟩ c_Program_getitem.body (defBody (inClass (top 20) 5)) = true := by kernel_rfl
theorem fn_Program_getitem (c : obsK L fk ds K = valS L ds w) (g : GoodS P w K mg base (L.T K) C10 L.B 20) : FnS' P w K mg base (L.T K) 22 (At.ad K (.mt "Program" "__getitem__")) 2 (c_Program_getitem.sem C10) := by
  obtain ⟨fd, F⟩ := says_def c 10 (d := D_Program_getitem) rfl
  have F : FunD K "__getitem__" "Program.__getitem__" (defArgs (inClass (top 20) 5)) (defBody (inClass (top 20) 5)) (defScope (inClass (top 20) 5)) [] [] (At.ad K (.mt "Program" "__getitem__")) fd := F
  have hb : Binds K fd ["self", "index"] [] := F.bindsN fun _ _ _ _ _ _ us hl => match us, hl with | [_, _], _ => rfl
  exact def_ok F hb sc_Program_getitem c_Program_getitem rfl rfl (by decide) chk_Program_getitem g
theorem st_Program_getitem (KX : K.In h) (G : h.Ns mainGlobals mg) (c : obsK L fk ds K = valS L ds w) (g : GoodS P w K mg base (L.T K) C10 L.B 20) : GoodS P w K mg base (L.T K) C11 L.B 22 :=
  have H := fn_Program_getitem c g
  g.addM (c := 0) (m := 2) (n := 1) (fk_mt (says_fk c 13 (f := .mt "Program" "__getitem__") rfl)).1 (by show (L.an.getD 2 Str.empty) ∉ (L.flds 0).map (fun a => L.an.getD a Str.empty); decide +kernel) (fk_mt (says_fk c 13 (f := .mt "Program" "__getitem__") rfl)).2 H rfl (fun _ => says_fk c 14 (f := .dn "Program" "__getitem__") rfl) (fun z => absurd z (by decide)) ⟨rfl, rfl, rfl, rfl⟩
theorem sc_Program_len : FnScope n_Program_len ["self"] (defScope (inClass (top 20) 3)) := ⟨rfl, rfl, rfl, by decide +kernel, rfl, by decide +kernel, by decide +kernel⟩
theorem chk_Program_len : chkSs (L.T K) C11 L.B ⟨n_Program_len, defScope (inClass (top 20) 3), fun _ => true⟩ c_Program_len.body (defBody (inClass (top 20) 3)) = true := by kernel_rfl
theorem fn_Program_len (c : obsK L fk ds K = valS L ds w) (g : GoodS P w K mg base (L.T K) C11 L.B 22) : FnS' P w K mg base (L.T K) 24 (At.ad K (.mt "Program" "__len__")) 1 (c_Program_len.sem C11) := by
  obtain ⟨fd, F⟩ := says_def c 11 (d := D_Program_len) rfl
  have F : FunD K "__len__" "Program.__len__" (defArgs (inClass (top 20) 3)) (defBody (inClass (top 20) 3)) (defScope (inClass (top 20) 3)) [] [] (At.ad K (.mt "Program" "__len__")) fd := F
  have hb : Binds K fd ["self"] [] := F.bindsN fun _ _ _ _ _ _ us hl => match us, hl with | [_], _ => rfl
  exact def_ok F hb sc_Program_len c_Program_len rfl rfl (by decide) chk_Program_len g
theorem st_Program_len (KX : K.In h) (G : h.Ns mainGlobals mg) (c : obsK L fk ds K = valS L ds w) (g : GoodS P w K mg base (L.T K) C11 L.B 22) : GoodS P w K mg base (L.T K) C12 L.B 24 :=
  have H := fn_Program_len c g
  g.addM (c := 0) (m := 1) (n := 0) (fk_mt (says_fk c 15 (f := .mt "Program" "__len__") rfl)).1 (by show (L.an.getD 1 Str.empty) ∉ (L.flds 0).map (fun a => L.an.getD a Str.empty); decide +kernel) (fk_mt (says_fk c 15 (f := .mt "Program" "__len__") rfl)).2 H rfl (fun _ => says_fk c 16 (f := .dn "Program" "__len__") rfl) (fun z => absurd z (by decide)) ⟨rfl, rfl, rfl, rfl⟩
theorem sc_Program_instructions : FnScope n_Program_instructions ["self"] (defScope (inClass (top 20) 1)) := ⟨rfl, rfl, rfl, by decide +kernel, rfl, by decide +kernel, by decide +kernel⟩
theorem chk_Program_instructions : chkSs (L.T K) C12 L.B ⟨n_Program_instructions, defScope (inClass (top 20) 1), fun _ => true⟩ c_Program_instructions.body (defBody (inClass (top 20) 1)) = true := by kernel_rfl
theorem fn_Program_instructions (c : obsK L fk ds K = valS L ds w) (g : GoodS P w K mg base (L.T K) C12 L.B 24) : FnS' P w K mg base (L.T K) 26 (At.ad K (.pr "Program" "instructions")) 1 (c_Program_instructions.sem C12) := by
  obtain ⟨fd, F⟩ := says_def c 12 (d := D_Program_instructions) rfl
  have F : FunD K "instructions" "Program.instructions" (defArgs (inClass (top 20) 1)) (defBody (inClass (top 20) 1)) (defScope (inClass (top 20) 1)) [] [] (At.ad K (.pr "Program" "instructions")) fd := F
  have hb : Binds K fd ["self"] [] := F.bindsN fun _ _ _ _ _ _ us hl => match us, hl with | [_], _ => rfl
  exact def_ok F hb sc_Program_instructions c_Program_instructions rfl rfl (by decide) chk_Program_instructions g
theorem st_Program_instructions (KX : K.In h) (G : h.Ns mainGlobals mg) (c : obsK L fk ds K = valS L ds w) (g : GoodS P w K mg base (L.T K) C12 L.B 24) : GoodS P w K mg base (L.T K) C13 L.B 26 :=
  have H := fn_Program_instructions c g
  let ⟨q, _, r⟩ := fk_pr (says_fk c 17 (f := .pr "Program" "instructions") rfl); g.addP (c := 0) (f := 6) q r H
theorem sc_is_name : FnScope n_is_name ["value"] (defScope (top 24)) := ⟨rfl, rfl, rfl, by decide +kernel, rfl, by decide +kernel, by decide +kernel⟩
theorem chk_is_name : chkSs (L.T K) C13 L.B ⟨n_is_name, defScope (top 24), fun _ => true⟩ c_is_name.body (defBody (top 24)) = true := by kernel_rfl
theorem fn_is_name (c : obsK L fk ds K = valS L ds w) (g : GoodS P w K mg base (L.T K) C13 L.B 26) : FnS' P w K mg base (L.T K) 28 (At.ad K (.fn "is_name")) 1 (c_is_name.sem C13) := by
  obtain ⟨fd, F⟩ := says_def c 13 (d := D_is_name) rfl
  have F : FunD K "is_name" "is_name" (defArgs (top 24)) (defBody (top 24)) (defScope (top 24)) [] [] (At.ad K (.fn "is_name")) fd := F
  have hb : Binds K fd ["value"] [] := F.bindsN fun _ _ _ _ _ _ us hl => match us, hl with | [_], _ => rfl
  exact def_ok F hb sc_is_name c_is_name rfl rfl (by decide) chk_is_name g
theorem st_is_name (KX : K.In h) (G : h.Ns mainGlobals mg) (c : obsK L fk ds K = valS L ds w) (g : GoodS P w K mg base (L.T K) C13 L.B 26) : GoodS P w K mg base (L.T K) C14 L.B 28 :=
  have H := fn_is_name c g
  g.addF (f := 7) (n := 1) (fk_fn KX G (says_fk c 18 (f := .fn "is_name") rfl)).1 (fk_fn KX G (says_fk c 18 (f := .fn "is_name") rfl)).2 H rfl
theorem sc_parse_count : FnScope n_parse_count ["text"] (defScope (top 28)) := ⟨rfl, rfl, rfl, by decide +kernel, rfl, by decide +kernel, by decide +kernel⟩
theorem chk_parse_count : chkSs (L.T K) C14 L.B ⟨n_parse_count, defScope (top 28), fun _ => true⟩ c_parse_count.body (defBody (top 28)) = true := by kernel_rfl
theorem fn_parse_count (c : obsK L fk ds K = valS L ds w) (g : GoodS P w K mg base (L.T K) C14 L.B 28) : FnS' P w K mg base (L.T K) 30 (At.ad K (.fn "parse_count")) 1 (c_parse_count.sem C14) := by
  obtain ⟨fd, F⟩ := says_def c 14 (d := D_parse_count) rfl
  have F : FunD K "parse_count" "parse_count" (defArgs (top 28)) (defBody (top 28)) (defScope (top 28)) [] [] (At.ad K (.fn "parse_count")) fd := F
  have hb : Binds K fd ["text"] [] := F.bindsN fun _ _ _ _ _ _ us hl => match us, hl with | [_], _ => rfl
  exact def_ok F hb sc_parse_count c_parse_count rfl rfl (by decide) chk_parse_count g
theorem st_parse_count (KX : K.In h) (G : h.Ns mainGlobals mg) (c : obsK L fk ds K = valS L ds w) (g : GoodS P w K mg base (L.T K) C14 L.B 28) : GoodS P w K mg base (L.T K) C15 L.B 30 :=
  have H := fn_parse_count c g
  g.addF (f := 8) (n := 1) (fk_fn KX G (says_fk c 19 (f := .fn "parse_count") rfl)).1 (fk_fn KX G (says_fk c 19 (f := .fn "parse_count") rfl)).2 H rfl
theorem sc_parse_integer : FnScope n_parse_integer ["text"] (defScope (top 29)) := ⟨rfl, rfl, rfl, by decide +kernel, rfl, by decide +kernel, by decide +kernel⟩
theorem chk_parse_integer : chkSs (L.T K) C15 L.B ⟨n_parse_integer, defScope (top 29), fun _ => true⟩ c_parse_integer.body (defBody (top 29)) = true := by kernel_rfl
theorem fn_parse_integer (c : obsK L fk ds K = valS L ds w) (g : GoodS P w K mg base (L.T K) C15 L.B 30) : FnS' P w K mg base (L.T K) 32 (At.ad K (.fn "parse_integer")) 1 (c_parse_integer.sem C15) := by
  obtain ⟨fd, F⟩ := says_def c 15 (d := D_parse_integer) rfl
  have F : FunD K "parse_integer" "parse_integer" (defArgs (top 29)) (defBody (top 29)) (defScope (top 29)) [] [] (At.ad K (.fn "parse_integer")) fd := F
  have hb : Binds K fd ["text"] [] := F.bindsN fun _ _ _ _ _ _ us hl => match us, hl with | [_], _ => rfl
  exact def_ok F hb sc_parse_integer c_parse_integer rfl rfl (by decide) chk_parse_integer g
theorem st_parse_integer (KX : K.In h) (G : h.Ns mainGlobals mg) (c : obsK L fk ds K = valS L ds w) (g : GoodS P w K mg base (L.T K) C15 L.B 30) : GoodS P w K mg base (L.T K) C16 L.B 32 :=
  have H := fn_parse_integer c g
  g.addF (f := 9) (n := 1) (fk_fn KX G (says_fk c 20 (f := .fn "parse_integer") rfl)).1 (fk_fn KX G (says_fk c 20 (f := .fn "parse_integer") rfl)).2 H rfl
theorem sc_format_item : FnScope n_format_item ["kind", "item"] (defScope (top 30)) := ⟨rfl, rfl, rfl, by decide +kernel, rfl, by decide +kernel, by decide +kernel⟩
theorem chk_format_item : chkSs (L.T K) C16 L.B ⟨n_format_item, defScope (top 30), fun _ => true⟩ c_format_item.body (defBody (top 30)) = true := by kernel_rfl
theorem fn_format_item (c : obsK L fk ds K = valS L ds w) (g : GoodS P w K mg base (L.T K) C16 L.B 32) : FnS' P w K mg base (L.T K) 34 (At.ad K (.fn "format_item")) 2 (c_format_item.sem C16) := by
  obtain ⟨fd, F⟩ := says_def c 16 (d := D_format_item) rfl
  have F : FunD K "format_item" "format_item" (defArgs (top 30)) (defBody (top 30)) (defScope (top 30)) [] [] (At.ad K (.fn "format_item")) fd := F
  have hb : Binds K fd ["kind", "item"] [] := F.bindsN fun _ _ _ _ _ _ us hl => match us, hl with | [_, _], _ => rfl
  exact def_ok F hb sc_format_item c_format_item rfl rfl (by decide) chk_format_item g
theorem st_format_item (KX : K.In h) (G : h.Ns mainGlobals mg) (c : obsK L fk ds K = valS L ds w) (g : GoodS P w K mg base (L.T K) C16 L.B 32) : GoodS P w K mg base (L.T K) C17 L.B 34 :=
  have H := fn_format_item c g
  g.addF (f := 10) (n := 2) (fk_fn KX G (says_fk c 21 (f := .fn "format_item") rfl)).1 (fk_fn KX G (says_fk c 21 (f := .fn "format_item") rfl)).2 H rfl
theorem sc_format_instruction : FnScope n_format_instruction ["instruction"] (defScope (top 31)) := ⟨rfl, rfl, rfl, by decide +kernel, rfl, by decide +kernel, by decide +kernel⟩
theorem chk_format_instruction : chkSs (L.T K) C17 L.B ⟨n_format_instruction, defScope (top 31), fun _ => true⟩ c_format_instruction.body (defBody (top 31)) = true := by kernel_rfl
theorem fn_format_instruction (c : obsK L fk ds K = valS L ds w) (g : GoodS P w K mg base (L.T K) C17 L.B 34) : FnS' P w K mg base (L.T K) 36 (At.ad K (.fn "format_instruction")) 1 (c_format_instruction.sem C17) := by
  obtain ⟨fd, F⟩ := says_def c 17 (d := D_format_instruction) rfl
  have F : FunD K "format_instruction" "format_instruction" (defArgs (top 31)) (defBody (top 31)) (defScope (top 31)) [] [] (At.ad K (.fn "format_instruction")) fd := F
  have hb : Binds K fd ["instruction"] [] := F.bindsN fun _ _ _ _ _ _ us hl => match us, hl with | [_], _ => rfl
  exact def_ok F hb sc_format_instruction c_format_instruction rfl rfl (by decide) chk_format_instruction g
theorem st_format_instruction (KX : K.In h) (G : h.Ns mainGlobals mg) (c : obsK L fk ds K = valS L ds w) (g : GoodS P w K mg base (L.T K) C17 L.B 34) : GoodS P w K mg base (L.T K) C18 L.B 36 :=
  have H := fn_format_instruction c g
  g.addF (f := 11) (n := 1) (fk_fn KX G (says_fk c 22 (f := .fn "format_instruction") rfl)).1 (fk_fn KX G (says_fk c 22 (f := .fn "format_instruction") rfl)).2 H rfl
theorem sc_format_program : FnScope n_format_program ["program"] (defScope (top 32)) := ⟨rfl, rfl, rfl, by decide +kernel, rfl, by decide +kernel, by decide +kernel⟩
theorem chk_format_program : chkSs (L.T K) C18 L.B ⟨n_format_program, defScope (top 32), fun _ => true⟩ c_format_program.body (defBody (top 32)) = true := by kernel_rfl
theorem fn_format_program (c : obsK L fk ds K = valS L ds w) (g : GoodS P w K mg base (L.T K) C18 L.B 36) : FnS' P w K mg base (L.T K) 38 (At.ad K (.fn "format_program")) 1 (c_format_program.sem C18) := by
  obtain ⟨fd, F⟩ := says_def c 18 (d := D_format_program) rfl
  have F : FunD K "format_program" "format_program" (defArgs (top 32)) (defBody (top 32)) (defScope (top 32)) [] [] (At.ad K (.fn "format_program")) fd := F
  have hb : Binds K fd ["program"] [] := F.bindsN fun _ _ _ _ _ _ us hl => match us, hl with | [_], _ => rfl
  exact def_ok F hb sc_format_program c_format_program rfl rfl (by decide) chk_format_program g
theorem st_format_program (KX : K.In h) (G : h.Ns mainGlobals mg) (c : obsK L fk ds K = valS L ds w) (g : GoodS P w K mg base (L.T K) C18 L.B 36) : GoodS P w K mg base (L.T K) C19 L.B 38 :=
  have H := fn_format_program c g
  g.addF (f := 12) (n := 1) (fk_fn KX G (says_fk c 23 (f := .fn "format_program") rfl)).1 (fk_fn KX G (says_fk c 23 (f := .fn "format_program") rfl)).2 H rfl
theorem sc_parse_item : FnScope n_parse_item ["kind", "word"] (defScope (top 33)) := ⟨rfl, rfl, rfl, by decide +kernel, rfl, by decide +kernel, by decide +kernel⟩
theorem chk_parse_item : chkSs (L.T K) C19 L.B ⟨n_parse_item, defScope (top 33), fun _ => true⟩ c_parse_item.body (defBody (top 33)) = true := by kernel_rfl
theorem fn_parse_item (c : obsK L fk ds K = valS L ds w) (g : GoodS P w K mg base (L.T K) C19 L.B 38) : FnS' P w K mg base (L.T K) 40 (At.ad K (.fn "parse_item")) 2 (c_parse_item.sem C19) := by
  obtain ⟨fd, F⟩ := says_def c 19 (d := D_parse_item) rfl
  have F : FunD K "parse_item" "parse_item" (defArgs (top 33)) (defBody (top 33)) (defScope (top 33)) [] [] (At.ad K (.fn "parse_item")) fd := F
  have hb : Binds K fd ["kind", "word"] [] := F.bindsN fun _ _ _ _ _ _ us hl => match us, hl with | [_, _], _ => rfl
  exact def_ok F hb sc_parse_item c_parse_item rfl rfl (by decide) chk_parse_item g
theorem st_parse_item (KX : K.In h) (G : h.Ns mainGlobals mg) (c : obsK L fk ds K = valS L ds w) (g : GoodS P w K mg base (L.T K) C19 L.B 38) : GoodS P w K mg base (L.T K) C20 L.B 40 :=
  have H := fn_parse_item c g
  g.addF (f := 13) (n := 2) (fk_fn KX G (says_fk c 24 (f := .fn "parse_item") rfl)).1 (fk_fn KX G (says_fk c 24 (f := .fn "parse_item") rfl)).2 H rfl
theorem sc_parse_instruction : FnScope n_parse_instruction ["line"] (defScope (top 34)) := ⟨rfl, rfl, rfl, by decide +kernel, rfl, by decide +kernel, by decide +kernel⟩
theorem chk_parse_instruction : chkSs (L.T K) C20 L.B ⟨n_parse_instruction, defScope (top 34), fun _ => true⟩ c_parse_instruction.body (defBody (top 34)) = true := by kernel_rfl
theorem fn_parse_instruction (c : obsK L fk ds K = valS L ds w) (g : GoodS P w K mg base (L.T K) C20 L.B 40) : FnS' P w K mg base (L.T K) 42 (At.ad K (.fn "parse_instruction")) 1 (c_parse_instruction.sem C20) := by
  obtain ⟨fd, F⟩ := says_def c 20 (d := D_parse_instruction) rfl
  have F : FunD K "parse_instruction" "parse_instruction" (defArgs (top 34)) (defBody (top 34)) (defScope (top 34)) [] [] (At.ad K (.fn "parse_instruction")) fd := F
  have hb : Binds K fd ["line"] [] := F.bindsN fun _ _ _ _ _ _ us hl => match us, hl with | [_], _ => rfl
  exact def_ok F hb sc_parse_instruction c_parse_instruction rfl rfl (by decide) chk_parse_instruction g
theorem st_parse_instruction (KX : K.In h) (G : h.Ns mainGlobals mg) (c : obsK L fk ds K = valS L ds w) (g : GoodS P w K mg base (L.T K) C20 L.B 40) : GoodS P w K mg base (L.T K) C21 L.B 42 :=
  have H := fn_parse_instruction c g
  g.addF (f := 14) (n := 1) (fk_fn KX G (says_fk c 25 (f := .fn "parse_instruction") rfl)).1 (fk_fn KX G (says_fk c 25 (f := .fn "parse_instruction") rfl)).2 H rfl
theorem sc_lines_of : FnScope n_lines_of ["text"] (defScope (top 35)) := ⟨rfl, rfl, rfl, by decide +kernel, rfl, by decide +kernel, by decide +kernel⟩
theorem chk_lines_of : chkSs (L.T K) C21 L.B ⟨n_lines_of, defScope (top 35), fun _ => true⟩ c_lines_of.body (defBody (top 35)) = true := by kernel_rfl
theorem fn_lines_of (c : obsK L fk ds K = valS L ds w) (g : GoodS P w K mg base (L.T K) C21 L.B 42) : FnS' P w K mg base (L.T K) 44 (At.ad K (.fn "lines_of")) 1 (c_lines_of.sem C21) := by
  obtain ⟨fd, F⟩ := says_def c 21 (d := D_lines_of) rfl
  have F : FunD K "lines_of" "lines_of" (defArgs (top 35)) (defBody (top 35)) (defScope (top 35)) [] [] (At.ad K (.fn "lines_of")) fd := F
  have hb : Binds K fd ["text"] [] := F.bindsN fun _ _ _ _ _ _ us hl => match us, hl with | [_], _ => rfl
  exact def_ok F hb sc_lines_of c_lines_of rfl rfl (by decide) chk_lines_of g
theorem st_lines_of (KX : K.In h) (G : h.Ns mainGlobals mg) (c : obsK L fk ds K = valS L ds w) (g : GoodS P w K mg base (L.T K) C21 L.B 42) : GoodS P w K mg base (L.T K) C22 L.B 44 :=
  have H := fn_lines_of c g
  g.addF (f := 15) (n := 1) (fk_fn KX G (says_fk c 26 (f := .fn "lines_of") rfl)).1 (fk_fn KX G (says_fk c 26 (f := .fn "lines_of") rfl)).2 H rfl
theorem sc_parse_program : FnScope n_parse_program ["text"] (defScope (top 36)) := ⟨rfl, rfl, rfl, by decide +kernel, rfl, by decide +kernel, by decide +kernel⟩
theorem chk_parse_program : chkSs (L.T K) C22 L.B ⟨n_parse_program, defScope (top 36), fun _ => true⟩ c_parse_program.body (defBody (top 36)) = true := by kernel_rfl
theorem fn_parse_program (c : obsK L fk ds K = valS L ds w) (g : GoodS P w K mg base (L.T K) C22 L.B 44) : FnS' P w K mg base (L.T K) 46 (At.ad K (.fn "parse_program")) 1 (c_parse_program.sem C22) := by
  obtain ⟨fd, F⟩ := says_def c 22 (d := D_parse_program) rfl
  have F : FunD K "parse_program" "parse_program" (defArgs (top 36)) (defBody (top 36)) (defScope (top 36)) [] [] (At.ad K (.fn "parse_program")) fd := F
  have hb : Binds K fd ["text"] [] := F.bindsN fun _ _ _ _ _ _ us hl => match us, hl with | [_], _ => rfl
  exact def_ok F hb sc_parse_program c_parse_program rfl rfl (by decide) chk_parse_program g
theorem st_parse_program (KX : K.In h) (G : h.Ns mainGlobals mg) (c : obsK L fk ds K = valS L ds w) (g : GoodS P w K mg base (L.T K) C22 L.B 44) : GoodS P w K mg base (L.T K) C23 L.B 46 :=
  have H := fn_parse_program c g
  g.addF (f := 16) (n := 1) (fk_fn KX G (says_fk c 27 (f := .fn "parse_program") rfl)).1 (fk_fn KX G (says_fk c 27 (f := .fn "parse_program") rfl)).2 H rfl
theorem sc_named_target : FnScope n_named_target ["line"] (defScope (top 37)) := ⟨rfl, rfl, rfl, by decide +kernel, rfl, by decide +kernel, by decide +kernel⟩
theorem chk_named_target : chkSs (L.T K) C23 L.B ⟨n_named_target, defScope (top 37), fun _ => true⟩ c_named_target.body (defBody (top 37)) = true := by kernel_rfl
theorem fn_named_target (c : obsK L fk ds K = valS L ds w) (g : GoodS P w K mg base (L.T K) C23 L.B 46) : FnS' P w K mg base (L.T K) 48 (At.ad K (.fn "named_target")) 1 (c_named_target.sem C23) := by
  obtain ⟨fd, F⟩ := says_def c 23 (d := D_named_target) rfl
  have F : FunD K "named_target" "named_target" (defArgs (top 37)) (defBody (top 37)) (defScope (top 37)) [] [] (At.ad K (.fn "named_target")) fd := F
  have hb : Binds K fd ["line"] [] := F.bindsN fun _ _ _ _ _ _ us hl => match us, hl with | [_], _ => rfl
  exact def_ok F hb sc_named_target c_named_target rfl rfl (by decide) chk_named_target g
theorem st_named_target (KX : K.In h) (G : h.Ns mainGlobals mg) (c : obsK L fk ds K = valS L ds w) (g : GoodS P w K mg base (L.T K) C23 L.B 46) : GoodS P w K mg base (L.T K) C24 L.B 48 :=
  have H := fn_named_target c g
  g.addF (f := 17) (n := 1) (fk_fn KX G (says_fk c 28 (f := .fn "named_target") rfl)).1 (fk_fn KX G (says_fk c 28 (f := .fn "named_target") rfl)).2 H rfl
theorem sc_assemble : FnScope n_assemble ["text"] (defScope (top 38)) := ⟨rfl, rfl, rfl, by decide +kernel, rfl, by decide +kernel, by decide +kernel⟩
theorem chk_assemble : chkSs (L.T K) C24 L.B ⟨n_assemble, defScope (top 38), fun _ => true⟩ c_assemble.body (defBody (top 38)) = true := by kernel_rfl
theorem fn_assemble (c : obsK L fk ds K = valS L ds w) (g : GoodS P w K mg base (L.T K) C24 L.B 48) : FnS' P w K mg base (L.T K) 50 (At.ad K (.fn "assemble")) 1 (c_assemble.sem C24) := by
  obtain ⟨fd, F⟩ := says_def c 24 (d := D_assemble) rfl
  have F : FunD K "assemble" "assemble" (defArgs (top 38)) (defBody (top 38)) (defScope (top 38)) [] [] (At.ad K (.fn "assemble")) fd := F
  have hb : Binds K fd ["text"] [] := F.bindsN fun _ _ _ _ _ _ us hl => match us, hl with | [_], _ => rfl
  exact def_ok F hb sc_assemble c_assemble rfl rfl (by decide) chk_assemble g
theorem st_assemble (KX : K.In h) (G : h.Ns mainGlobals mg) (c : obsK L fk ds K = valS L ds w) (g : GoodS P w K mg base (L.T K) C24 L.B 48) : GoodS P w K mg base (L.T K) C25 L.B 50 :=
  have H := fn_assemble c g
  g.addF (f := 18) (n := 1) (fk_fn KX G (says_fk c 29 (f := .fn "assemble") rfl)).1 (fk_fn KX G (says_fk c 29 (f := .fn "assemble") rfl)).2 H rfl
theorem sc__law_pool : FnScope n__law_pool ["_law_script", "_law_k"] (defScope (top 40)) := ⟨rfl, rfl, rfl, by decide +kernel, rfl, by decide +kernel, by decide +kernel⟩
theorem chk__law_pool : chkSs (L.T K) C25 L.B ⟨n__law_pool, defScope (top 40), fun _ => true⟩ c__law_pool.body (defBody (top 40)) = true := by kernel_rfl
theorem fn__law_pool (c : obsK L fk ds K = valS L ds w) (g : GoodS P w K mg base (L.T K) C25 L.B 50) : FnS' P w K mg base (L.T K) 52 (At.ad K (.fn "_law_pool")) 2 (c__law_pool.sem C25) := by
  obtain ⟨fd, F⟩ := says_def c 25 (d := D__law_pool) rfl
  have F : FunD K "_law_pool" "_law_pool" (defArgs (top 40)) (defBody (top 40)) (defScope (top 40)) [] [] (At.ad K (.fn "_law_pool")) fd := F
  have hb : Binds K fd ["_law_script", "_law_k"] [] := F.bindsN fun _ _ _ _ _ _ us hl => match us, hl with | [_, _], _ => rfl
  exact def_ok F hb sc__law_pool c__law_pool rfl rfl (by decide) chk__law_pool g
theorem st__law_pool (KX : K.In h) (G : h.Ns mainGlobals mg) (c : obsK L fk ds K = valS L ds w) (g : GoodS P w K mg base (L.T K) C25 L.B 50) : GoodS P w K mg base (L.T K) C26 L.B 52 :=
  have H := fn__law_pool c g
  g.addF (f := 19) (n := 2) (fk_fn KX G (says_fk c 30 (f := .fn "_law_pool") rfl)).1 (fk_fn KX G (says_fk c 30 (f := .fn "_law_pool") rfl)).2 H rfl
theorem sc__law_take : FnScope n__law_take ["_law_pool_here", "_law_count"] (defScope (top 41)) := ⟨rfl, rfl, rfl, by decide +kernel, rfl, by decide +kernel, by decide +kernel⟩
theorem chk__law_take : chkSs (L.T K) C26 L.B ⟨n__law_take, defScope (top 41), fun _ => true⟩ c__law_take.body (defBody (top 41)) = true := by kernel_rfl
theorem fn__law_take (c : obsK L fk ds K = valS L ds w) (g : GoodS P w K mg base (L.T K) C26 L.B 52) : FnS' P w K mg base (L.T K) 54 (At.ad K (.fn "_law_take")) 2 (c__law_take.sem C26) := by
  obtain ⟨fd, F⟩ := says_def c 26 (d := D__law_take) rfl
  have F : FunD K "_law_take" "_law_take" (defArgs (top 41)) (defBody (top 41)) (defScope (top 41)) [] [] (At.ad K (.fn "_law_take")) fd := F
  have hb : Binds K fd ["_law_pool_here", "_law_count"] [] := F.bindsN fun _ _ _ _ _ _ us hl => match us, hl with | [_, _], _ => rfl
  exact def_ok F hb sc__law_take c__law_take rfl rfl (by decide) chk__law_take g
theorem st__law_take (KX : K.In h) (G : h.Ns mainGlobals mg) (c : obsK L fk ds K = valS L ds w) (g : GoodS P w K mg base (L.T K) C26 L.B 52) : GoodS P w K mg base (L.T K) C27 L.B 54 :=
  have H := fn__law_take c g
  g.addF (f := 20) (n := 2) (fk_fn KX G (says_fk c 31 (f := .fn "_law_take") rfl)).1 (fk_fn KX G (says_fk c 31 (f := .fn "_law_take") rfl)).2 H rfl
theorem sc__law_text : FnScope n__law_text ["_law_line"] (defScope (top 42)) := ⟨rfl, rfl, rfl, by decide +kernel, rfl, by decide +kernel, by decide +kernel⟩
theorem chk__law_text : chkSs (L.T K) C27 L.B ⟨n__law_text, defScope (top 42), fun _ => true⟩ c__law_text.body (defBody (top 42)) = true := by kernel_rfl
theorem fn__law_text (c : obsK L fk ds K = valS L ds w) (g : GoodS P w K mg base (L.T K) C27 L.B 54) : FnS' P w K mg base (L.T K) 56 (At.ad K (.fn "_law_text")) 1 (c__law_text.sem C27) := by
  obtain ⟨fd, F⟩ := says_def c 27 (d := D__law_text) rfl
  have F : FunD K "_law_text" "_law_text" (defArgs (top 42)) (defBody (top 42)) (defScope (top 42)) [] [] (At.ad K (.fn "_law_text")) fd := F
  have hb : Binds K fd ["_law_line"] [] := F.bindsN fun _ _ _ _ _ _ us hl => match us, hl with | [_], _ => rfl
  exact def_ok F hb sc__law_text c__law_text rfl rfl (by decide) chk__law_text g
theorem st__law_text (KX : K.In h) (G : h.Ns mainGlobals mg) (c : obsK L fk ds K = valS L ds w) (g : GoodS P w K mg base (L.T K) C27 L.B 54) : GoodS P w K mg base (L.T K) C28 L.B 56 :=
  have H := fn__law_text c g
  g.addF (f := 21) (n := 1) (fk_fn KX G (says_fk c 32 (f := .fn "_law_text") rfl)).1 (fk_fn KX G (says_fk c 32 (f := .fn "_law_text") rfl)).2 H rfl
theorem sc__law_any_code : FnScope n__law_any_code ["_law_pool_here", "_law_many"] (defScope (top 43)) := ⟨rfl, rfl, rfl, by decide +kernel, rfl, by decide +kernel, by decide +kernel⟩
theorem chk__law_any_code : chkSs (L.T K) C28 L.B ⟨n__law_any_code, defScope (top 43), fun _ => true⟩ c__law_any_code.body (defBody (top 43)) = true := by kernel_rfl
theorem fn__law_any_code (c : obsK L fk ds K = valS L ds w) (g : GoodS P w K mg base (L.T K) C28 L.B 56) : FnS' P w K mg base (L.T K) 58 (At.ad K (.fn "_law_any_code")) 2 (c__law_any_code.sem C28) := by
  obtain ⟨fd, F⟩ := says_def c 28 (d := D__law_any_code) rfl
  have F : FunD K "_law_any_code" "_law_any_code" (defArgs (top 43)) (defBody (top 43)) (defScope (top 43)) [] [] (At.ad K (.fn "_law_any_code")) fd := F
  have hb : Binds K fd ["_law_pool_here", "_law_many"] [] := F.bindsN fun _ _ _ _ _ _ us hl => match us, hl with | [_, _], _ => rfl
  exact def_ok F hb sc__law_any_code c__law_any_code rfl rfl (by decide) chk__law_any_code g
theorem st__law_any_code (KX : K.In h) (G : h.Ns mainGlobals mg) (c : obsK L fk ds K = valS L ds w) (g : GoodS P w K mg base (L.T K) C28 L.B 56) : GoodS P w K mg base (L.T K) C29 L.B 58 :=
  have H := fn__law_any_code c g
  g.addF (f := 22) (n := 2) (fk_fn KX G (says_fk c 33 (f := .fn "_law_any_code") rfl)).1 (fk_fn KX G (says_fk c 33 (f := .fn "_law_any_code") rfl)).2 H rfl
theorem sc__law_long_right : FnScope n__law_long_right [] (defScope (top 44)) := ⟨rfl, rfl, rfl, by decide +kernel, rfl, by decide +kernel, by decide +kernel⟩
theorem chk__law_long_right : chkSs (L.T K) C29 L.B ⟨n__law_long_right, defScope (top 44), fun _ => true⟩ c__law_long_right.body (defBody (top 44)) = true := by kernel_rfl
theorem fn__law_long_right (c : obsK L fk ds K = valS L ds w) (g : GoodS P w K mg base (L.T K) C29 L.B 58) : FnS' P w K mg base (L.T K) 60 (At.ad K (.fn "_law_long_right")) 0 (c__law_long_right.sem C29) := by
  obtain ⟨fd, F⟩ := says_def c 29 (d := D__law_long_right) rfl
  have F : FunD K "_law_long_right" "_law_long_right" (defArgs (top 44)) (defBody (top 44)) (defScope (top 44)) [] [] (At.ad K (.fn "_law_long_right")) fd := F
  have hb : Binds K fd [] [] := F.bindsN fun _ _ _ _ _ _ us hl => match us, hl with | [], _ => rfl
  exact def_ok F hb sc__law_long_right c__law_long_right rfl rfl (by decide) chk__law_long_right g
theorem st__law_long_right (KX : K.In h) (G : h.Ns mainGlobals mg) (c : obsK L fk ds K = valS L ds w) (g : GoodS P w K mg base (L.T K) C29 L.B 58) : GoodS P w K mg base (L.T K) C30 L.B 60 :=
  have H := fn__law_long_right c g
  g.addF (f := 23) (n := 0) (fk_fn KX G (says_fk c 34 (f := .fn "_law_long_right") rfl)).1 (fk_fn KX G (says_fk c 34 (f := .fn "_law_long_right") rfl)).2 H rfl
theorem sc_law : FnScope n_law ["_law_script"] (defScope (top 45)) := ⟨rfl, rfl, rfl, by decide +kernel, rfl, by decide +kernel, by decide +kernel⟩
theorem chk_law : chkSs (L.T K) C30 L.B ⟨n_law, defScope (top 45), fun _ => true⟩ c_law.body (defBody (top 45)) = true := by kernel_rfl
theorem fn_law (c : obsK L fk ds K = valS L ds w) (g : GoodS P w K mg base (L.T K) C30 L.B 60) : FnS' P w K mg base (L.T K) 62 (At.ad K (.fn "law")) 1 (c_law.sem C30) := by
  obtain ⟨fd, F⟩ := says_def c 30 (d := D_law) rfl
  have F : FunD K "law" "law" (defArgs (top 45)) (defBody (top 45)) (defScope (top 45)) [] [] (At.ad K (.fn "law")) fd := F
  have hb : Binds K fd ["_law_script"] [] := F.bindsN fun _ _ _ _ _ _ us hl => match us, hl with | [_], _ => rfl
  exact def_ok F hb sc_law c_law rfl rfl (by decide) chk_law g
theorem law_fn (KX : K.In h) (G : h.Ns mainGlobals mg) (c : obsK L fk ds K = valS L ds w) : FnS' P w K mg base (L.T K) 62 (At.ad K (.fn "law")) 1 (c_law.sem C30) := by
  have g : GoodS P w K mg base (L.T K) C0 L.B 0 := says_good KX G c
  have g := st_is_integer KX G c g
  have g := st_is_between KX G c g
  have g := st_check_between KX G c g
  have g := st_fits KX G c g
  have g := st_is_instruction KX G c g
  have g := st_is_within KX G c g
  have g := st_shifted KX G c g
  have g := st_Program_init KX G c g
  have g := st_Program_add KX G c g
  have g := st_Program_eq KX G c g
  have g := st_Program_getitem KX G c g
  have g := st_Program_len KX G c g
  have g := st_Program_instructions KX G c g
  have g := st_is_name KX G c g
  have g := st_parse_count KX G c g
  have g := st_parse_integer KX G c g
  have g := st_format_item KX G c g
  have g := st_format_instruction KX G c g
  have g := st_format_program KX G c g
  have g := st_parse_item KX G c g
  have g := st_parse_instruction KX G c g
  have g := st_lines_of KX G c g
  have g := st_parse_program KX G c g
  have g := st_named_target KX G c g
  have g := st_assemble KX G c g
  have g := st__law_pool KX G c g
  have g := st__law_take KX G c g
  have g := st__law_text KX G c g
  have g := st__law_any_code KX G c g
  have g := st__law_long_right KX G c g
  exact fn_law c g
end
end G71
end
section
set_option Elab.async false
set_option linter.all false
set_option maxRecDepth 100000
set_option maxHeartbeats 0
namespace G71
open PySem SX
def gd_FORMS : List (Str × D) := [("set", (.str "ri")), ("add", (.str "rrr")), ("sub", (.str "rrr")), ("move", (.str "rrp")), ("pick", (.str "rfrr")), ("less", (.str "frr")), ("same", (.str "frr")), ("jump", (.str "ft")), ("goto", (.str "t"))]
def K0 : Cx2 := C0.base2
theorem Z0 : SimC K0 C0 := SimC.base C0
def s_is_integer : Sem2 := c_is_integer.sem2 K0
def K1 : Cx2 := K0.addF 0 1 s_is_integer
theorem Z1 : SimC K1 C1 := Z0.addF (sem_sim Z0 c_is_integer) 0 1
def s_is_between : Sem2 := c_is_between.sem2 K1
@[simp] theorem q1_is_between : K1.fn 0 1 = some s_is_integer := rfl
def K2 : Cx2 := K1.addF 1 3 s_is_between
theorem Z2 : SimC K2 C2 := Z1.addF (sem_sim Z1 c_is_between) 1 3
def s_check_between : Sem2 := c_check_between.sem2 K2
@[simp] theorem q2_check_between : K2.fn 1 3 = some s_is_between := rfl
def K3 : Cx2 := K2.addF 2 3 s_check_between
theorem Z3 : SimC K3 C3 := Z2.addF (sem_sim Z2 c_check_between) 2 3
def s_fits : Sem2 := c_fits.sem2 K3
@[simp] theorem q3_fits : K3.fn 1 3 = some s_is_between := rfl
@[simp] theorem q4_fits : K3.fn 0 1 = some s_is_integer := rfl
@[simp] theorem q5_fits : K3.gvs.lookup 1 = some (.int 4) := rfl
@[simp] theorem q6_fits : K3.gvs.lookup 2 = some (.int 200) := rfl
@[simp] theorem q7_fits : K3.gvs.lookup 3 = some (.int 40) := rfl
@[simp] theorem q8_fits : K3.gvs.lookup 0 = some (.int 8) := rfl
def K4 : Cx2 := K3.addF 3 2 s_fits
theorem Z4 : SimC K4 C4 := Z3.addF (sem_sim Z3 c_fits) 3 2
def s_is_instruction : Sem2 := c_is_instruction.sem2 K4
@[simp] theorem q9_is_instruction : K4.fn 3 2 = some s_fits := rfl
@[simp] theorem q10_is_instruction : K4.gd 8 = some gd_FORMS := rfl
def K5 : Cx2 := K4.addF 4 1 s_is_instruction
theorem Z5 : SimC K5 C5 := Z4.addF (sem_sim Z4 c_is_instruction) 4 1
def s_is_within : Sem2 := c_is_within.sem2 K5
def K6 : Cx2 := K5.addF 5 2 s_is_within
theorem Z6 : SimC K6 C6 := Z5.addF (sem_sim Z5 c_is_within) 5 2
def s_shifted : Sem2 := c_shifted.sem2 K6
def K7 : Cx2 := K6.addF 6 2 s_shifted
theorem Z7 : SimC K7 C7 := Z6.addF (sem_sim Z6 c_shifted) 6 2
def s_Program_init : Sem2 := c_Program_init.sem2 K7
@[simp] theorem q11_Program_init : (K7.flds 0).idxOf? 4 = some 0 := rfl
@[simp] theorem q12_Program_init : (K7.flds 0).idxOf? 5 = some 1 := rfl
@[simp] theorem q13_Program_init : K7.fn 4 1 = some s_is_instruction := rfl
@[simp] theorem q14_Program_init : K7.fn 5 2 = some s_is_within := rfl
@[simp] theorem q15_Program_init : K7.gvs.lookup 2 = some (.int 200) := rfl
def K8 : Cx2 := K7.addI 0 1 s_Program_init
theorem Z8 : SimC K8 C8 := Z7.addI (sem_sim Z7 c_Program_init) 0 1
def s_Program_add : Sem2 := c_Program_add.sem2 K8
@[simp] theorem q16_Program_add : (K8.flds 0).idxOf? 4 = some 0 := rfl
@[simp] theorem q17_Program_add : K8.fn 6 2 = some s_shifted := rfl
@[simp] theorem q18_Program_add : K8.gvs.lookup 2 = some (.int 200) := rfl
@[simp] theorem q19_Program_add : K8.ini 0 1 = some s_Program_init := rfl
def K9 : Cx2 := K8.addM 0 3 1 s_Program_add
theorem Z9 : SimC K9 C9 := Z8.addM (sem_sim Z8 c_Program_add) 0 3 1
def s_Program_eq : Sem2 := c_Program_eq.sem2 K9
@[simp] theorem q20_Program_eq : (K9.flds 0).idxOf? 4 = some 0 := rfl
@[simp] theorem q21_Program_eq : 0 ∈ K9.cls := List.contains_iff_mem.mp (rfl : K9.cls.contains 0 = true)
def K10 : Cx2 := K9.addM 0 0 1 s_Program_eq
theorem Z10 : SimC K10 C10 := Z9.addM (sem_sim Z9 c_Program_eq) 0 0 1
def s_Program_getitem : Sem2 := c_Program_getitem.sem2 K10
@[simp] theorem q22_Program_getitem : (K10.flds 0).idxOf? 4 = some 0 := rfl
@[simp] theorem q23_Program_getitem : K10.fn 2 3 = some s_check_between := rfl
def K11 : Cx2 := K10.addM 0 2 1 s_Program_getitem
theorem Z11 : SimC K11 C11 := Z10.addM (sem_sim Z10 c_Program_getitem) 0 2 1
def s_Program_len : Sem2 := c_Program_len.sem2 K11
@[simp] theorem q24_Program_len : (K11.flds 0).idxOf? 4 = some 0 := rfl
def K12 : Cx2 := K11.addM 0 1 0 s_Program_len
theorem Z12 : SimC K12 C12 := Z11.addM (sem_sim Z11 c_Program_len) 0 1 0
def s_Program_instructions : Sem2 := c_Program_instructions.sem2 K12
@[simp] theorem q25_Program_instructions : (K12.flds 0).idxOf? 4 = some 0 := rfl
def K13 : Cx2 := K12.addP 0 6 s_Program_instructions
theorem Z13 : SimC K13 C13 := Z12.addP (sem_sim Z12 c_Program_instructions) 0 6
def s_is_name : Sem2 := c_is_name.sem2 K13
@[simp] theorem q26_is_name : K13.gvs.lookup 4 = some (.str "abcdefghijklmnopqrstuvwxyz") := rfl
@[simp] theorem q27_is_name : K13.gvs.lookup 5 = some (.int 8) := rfl
@[simp] theorem q28_is_name : K13.mt 0 aLen 0 = some s_Program_len := rfl
def K14 : Cx2 := K13.addF 7 1 s_is_name
theorem Z14 : SimC K14 C14 := Z13.addF (sem_sim Z13 c_is_name) 7 1
def s_parse_count : Sem2 := c_parse_count.sem2 K14
@[simp] theorem q29_parse_count : K14.gvs.lookup 6 = some (.str "0123456789") := rfl
@[simp] theorem q30_parse_count : K14.gvs.lookup 7 = some (.int 200) := rfl
@[simp] theorem q31_parse_count : K14.mt 0 aEq 1 = some s_Program_eq := rfl
@[simp] theorem q32_parse_count : K14.mt 0 aLen 0 = some s_Program_len := rfl
def K15 : Cx2 := K14.addF 8 1 s_parse_count
theorem Z15 : SimC K15 C15 := Z14.addF (sem_sim Z14 c_parse_count) 8 1
def s_parse_integer : Sem2 := c_parse_integer.sem2 K15
@[simp] theorem q33_parse_integer : K15.fn 8 1 = some s_parse_count := rfl
@[simp] theorem q34_parse_integer : K15.mt 0 aEq 1 = some s_Program_eq := rfl
@[simp] theorem q35_parse_integer : K15.mt 0 aItem 1 = some s_Program_getitem := rfl
def K16 : Cx2 := K15.addF 9 1 s_parse_integer
theorem Z16 : SimC K16 C16 := Z15.addF (sem_sim Z15 c_parse_integer) 9 1
def s_format_item : Sem2 := c_format_item.sem2 K16
def K17 : Cx2 := K16.addF 10 2 s_format_item
theorem Z17 : SimC K17 C17 := Z16.addF (sem_sim Z16 c_format_item) 10 2
def s_format_instruction : Sem2 := c_format_instruction.sem2 K17
@[simp] theorem q36_format_instruction : K17.fn 10 2 = some s_format_item := rfl
@[simp] theorem q37_format_instruction : K17.gd 8 = some gd_FORMS := rfl
@[simp] theorem q38_format_instruction : K17.mt 0 aItem 1 = some s_Program_getitem := rfl
def K18 : Cx2 := K17.addF 11 1 s_format_instruction
theorem Z18 : SimC K18 C18 := Z17.addF (sem_sim Z17 c_format_instruction) 11 1
def s_format_program : Sem2 := c_format_program.sem2 K18
@[simp] theorem q39_format_program : (K18.flds 0).idxOf? 6 = none := rfl
@[simp] theorem q40_format_program : K18.pr 0 6 = some s_Program_instructions := rfl
@[simp] theorem q41_format_program : K18.fn 11 1 = some s_format_instruction := rfl
def K19 : Cx2 := K18.addF 12 1 s_format_program
theorem Z19 : SimC K19 C19 := Z18.addF (sem_sim Z18 c_format_program) 12 1
def s_parse_item : Sem2 := c_parse_item.sem2 K19
@[simp] theorem q42_parse_item : K19.fn 8 1 = some s_parse_count := rfl
@[simp] theorem q43_parse_item : K19.fn 9 1 = some s_parse_integer := rfl
@[simp] theorem q44_parse_item : K19.mt 0 aItem 1 = some s_Program_getitem := rfl
def K20 : Cx2 := K19.addF 13 2 s_parse_item
theorem Z20 : SimC K20 C20 := Z19.addF (sem_sim Z19 c_parse_item) 13 2
def s_parse_instruction : Sem2 := c_parse_instruction.sem2 K20
@[simp] theorem q45_parse_instruction : K20.fn 4 1 = some s_is_instruction := rfl
@[simp] theorem q46_parse_instruction : K20.fn 13 2 = some s_parse_item := rfl
@[simp] theorem q47_parse_instruction : K20.gd 8 = some gd_FORMS := rfl
@[simp] theorem q48_parse_instruction : K20.mt 0 aEq 1 = some s_Program_eq := rfl
@[simp] theorem q49_parse_instruction : K20.mt 0 aItem 1 = some s_Program_getitem := rfl
@[simp] theorem q50_parse_instruction : K20.mt 0 aLen 0 = some s_Program_len := rfl
def K21 : Cx2 := K20.addF 14 1 s_parse_instruction
theorem Z21 : SimC K21 C21 := Z20.addF (sem_sim Z20 c_parse_instruction) 14 1
def s_lines_of : Sem2 := c_lines_of.sem2 K21
@[simp] theorem q51_lines_of : K21.mt 0 aEq 1 = some s_Program_eq := rfl
def K22 : Cx2 := K21.addF 15 1 s_lines_of
theorem Z22 : SimC K22 C22 := Z21.addF (sem_sim Z21 c_lines_of) 15 1
def s_parse_program : Sem2 := c_parse_program.sem2 K22
@[simp] theorem q52_parse_program : K22.fn 15 1 = some s_lines_of := rfl
@[simp] theorem q53_parse_program : K22.fn 14 1 = some s_parse_instruction := rfl
@[simp] theorem q54_parse_program : K22.ini 0 1 = some s_Program_init := rfl
def K23 : Cx2 := K22.addF 16 1 s_parse_program
theorem Z23 : SimC K23 C23 := Z22.addF (sem_sim Z22 c_parse_program) 16 1
def s_named_target : Sem2 := c_named_target.sem2 K23
@[simp] theorem q55_named_target : K23.fn 7 1 = some s_is_name := rfl
@[simp] theorem q56_named_target : K23.mt 0 aEq 1 = some s_Program_eq := rfl
@[simp] theorem q57_named_target : K23.mt 0 aItem 1 = some s_Program_getitem := rfl
def K24 : Cx2 := K23.addF 17 1 s_named_target
theorem Z24 : SimC K24 C24 := Z23.addF (sem_sim Z23 c_named_target) 17 1
def s_assemble : Sem2 := c_assemble.sem2 K24
@[simp] theorem q58_assemble : K24.fn 7 1 = some s_is_name := rfl
@[simp] theorem q59_assemble : K24.fn 15 1 = some s_lines_of := rfl
@[simp] theorem q60_assemble : K24.fn 17 1 = some s_named_target := rfl
@[simp] theorem q61_assemble : K24.fn 14 1 = some s_parse_instruction := rfl
@[simp] theorem q62_assemble : K24.ini 0 1 = some s_Program_init := rfl
@[simp] theorem q63_assemble : K24.mt 0 aItem 1 = some s_Program_getitem := rfl
@[simp] theorem q64_assemble : K24.mt 0 aLen 0 = some s_Program_len := rfl
def K25 : Cx2 := K24.addF 18 1 s_assemble
theorem Z25 : SimC K25 C25 := Z24.addF (sem_sim Z24 c_assemble) 18 1
def s__law_pool : Sem2 := c__law_pool.sem2 K25
@[simp] theorem q65__law_pool : K25.mt 0 aAdd 1 = some s_Program_add := rfl
@[simp] theorem q66__law_pool : K25.mt 0 aItem 1 = some s_Program_getitem := rfl
@[simp] theorem q67__law_pool : K25.mt 0 aLen 0 = some s_Program_len := rfl
def K26 : Cx2 := K25.addF 19 2 s__law_pool
theorem Z26 : SimC K26 C26 := Z25.addF (sem_sim Z25 c__law_pool) 19 2
def s__law_take : Sem2 := c__law_take.sem2 K26
@[simp] theorem q68__law_take : K26.mt 0 aAdd 1 = some s_Program_add := rfl
@[simp] theorem q69__law_take : K26.mt 0 aItem 1 = some s_Program_getitem := rfl
def K27 : Cx2 := K26.addF 20 2 s__law_take
theorem Z27 : SimC K27 C27 := Z26.addF (sem_sim Z26 c__law_take) 20 2
def s__law_text : Sem2 := c__law_text.sem2 K27
@[simp] theorem q70__law_text : K27.mt 0 aAdd 1 = some s_Program_add := rfl
@[simp] theorem q71__law_text : K27.mt 0 aEq 1 = some s_Program_eq := rfl
@[simp] theorem q72__law_text : K27.mt 0 aItem 1 = some s_Program_getitem := rfl
def K28 : Cx2 := K27.addF 21 1 s__law_text
theorem Z28 : SimC K28 C28 := Z27.addF (sem_sim Z27 c__law_text) 21 1
def s__law_any_code : Sem2 := c__law_any_code.sem2 K28
@[simp] theorem q73__law_any_code : K28.fn 20 2 = some s__law_take := rfl
@[simp] theorem q74__law_any_code : K28.mt 0 aAdd 1 = some s_Program_add := rfl
@[simp] theorem q75__law_any_code : K28.mt 0 aEq 1 = some s_Program_eq := rfl
@[simp] theorem q76__law_any_code : K28.mt 0 aItem 1 = some s_Program_getitem := rfl
def K29 : Cx2 := K28.addF 22 2 s__law_any_code
theorem Z29 : SimC K29 C29 := Z28.addF (sem_sim Z28 c__law_any_code) 22 2
def s__law_long_right : Sem2 := c__law_long_right.sem2 K29
@[simp] theorem q77__law_long_right : K29.fn 21 1 = some s__law_text := rfl
@[simp] theorem q78__law_long_right : K29.fn 18 1 = some s_assemble := rfl
@[simp] theorem q79__law_long_right : K29.fn 12 1 = some s_format_program := rfl
@[simp] theorem q80__law_long_right : K29.fn 16 1 = some s_parse_program := rfl
@[simp] theorem q81__law_long_right : K29.ini 0 1 = some s_Program_init := rfl
@[simp] theorem q82__law_long_right : K29.mt 0 aAdd 1 = some s_Program_add := rfl
@[simp] theorem q83__law_long_right : K29.mt 0 aEq 1 = some s_Program_eq := rfl
@[simp] theorem q84__law_long_right : K29.mt 0 aLen 0 = some s_Program_len := rfl
def K30 : Cx2 := K29.addF 23 0 s__law_long_right
theorem Z30 : SimC K30 C30 := Z29.addF (sem_sim Z29 c__law_long_right) 23 0
def s_law : Sem2 := c_law.sem2 K30
@[simp] theorem q85_law : (K30.flds 0).idxOf? 6 = none := rfl
@[simp] theorem q86_law : K30.pr 0 6 = some s_Program_instructions := rfl
@[simp] theorem q87_law : K30.fn 22 2 = some s__law_any_code := rfl
@[simp] theorem q88_law : K30.fn 23 0 = some s__law_long_right := rfl
@[simp] theorem q89_law : K30.fn 19 2 = some s__law_pool := rfl
@[simp] theorem q90_law : K30.fn 20 2 = some s__law_take := rfl
@[simp] theorem q91_law : K30.fn 21 1 = some s__law_text := rfl
@[simp] theorem q92_law : K30.fn 18 1 = some s_assemble := rfl
@[simp] theorem q93_law : K30.fn 12 1 = some s_format_program := rfl
@[simp] theorem q94_law : K30.fn 16 1 = some s_parse_program := rfl
@[simp] theorem q95_law : K30.ini 0 1 = some s_Program_init := rfl
@[simp] theorem q96_law : K30.mt 0 aAdd 1 = some s_Program_add := rfl
@[simp] theorem q97_law : K30.mt 0 aEq 1 = some s_Program_eq := rfl
@[simp] theorem q98_law : K30.mt 0 aItem 1 = some s_Program_getitem := rfl
@[simp] theorem q99_law : K30.mt 0 aLen 0 = some s_Program_len := rfl
theorem law_end {l : List D} {os : List (Option Vl)} (e : s_law [.fr (.rol l)] = .ok (.fr (.bl true)) os) : ∃ h, (c_law.sem C30) [.rol l] [] = .ok (.bl true) h := plain_of (sem_sim Z30 c_law) e
end G71
end
section
set_option Elab.async false
set_option linter.all false
set_option maxRecDepth 100000
set_option maxHeartbeats 0
namespace G71
open PySem PySem.Spec PyProof.Rows L2 SX
def nm0 : List PySem.Str := ["_wall", "CarryError", "InvalidNumber", "InvalidProgram", "ParseError", "is_integer", "is_between", "check_between", "REGISTERS", "FLAGS", "MOST_INSTRUCTIONS", "MOST_PLACES", "FORMS", "fits", "is_instruction", "is_within", "shifted", "Program", "LETTERS", "MOST_LETTERS", "is_name", "DIGITS", "MOST_DIGITS", "parse_count", "parse_integer", "format_item", "format_instruction", "format_program", "parse_item", "parse_instruction"]
def nm1 : List PySem.Str := ["lines_of", "parse_program", "named_target", "assemble", "_law_pool", "_law_take", "_law_text", "_law_any_code", "_law_long_right"]
def names : List PySem.Str := nm0 ++ nm1
abbrev R : PySem.W.OpenRow := PySem.W.OpenLaw.row PySem.Challenge.rw_carryrounds_k71_programs_written
abbrev hk : PySem.W.Hook := hookS 5 L fk ds
def ob (s : PySem.W.SharedT) : AlS := obsS 5 L fk ds (HandSHeadRun.getT s)
theorem ob_eq (s : PySem.W.SharedT) : ob s = hk.obs s.abs := obsS_eq (HandSHeadRun.getT_eq s)
abbrev RunAt (w : World) : Prop := HandSHeadRun.RunEq R (PySem.W.view R.prog [45]) hk ob 4000 names w
theorem runF (w : World) : RunAt (w.withFollow "special-get-raises" false) := by
  intro os
  kernel_rfl
theorem runT (w : World) : RunAt (w.withFollow "special-get-raises" true) := by
  intro os
  kernel_rfl
theorem run (w : World) : RunAt w := PySem.W.byRow2 "special-get-raises" runF runT w
end G71
end
section
set_option Elab.async false
set_option linter.all false
set_option maxRecDepth 100000
set_option maxHeartbeats 4000000
namespace G71
open PySem PySem.Spec PyProof.Rows L2 SX
@[simp] theorem is_integer_i (v : Int) : s_is_integer [.fr (.int v)] = .ok (.fr (.bl true)) [none] := rfl
@[simp] theorem is_between_i (v a b : Int) : s_is_between [.fr (.int v), .fr (.int a), .fr (.int b)] = .ok (.fr (.bl (decide (a ≤ v) && decide (v ≤ b)))) [none, none, none] := by
  rw [s_is_between, sem2_app _ _ _ rfl rfl]
  simp [c_is_between]
@[simp] theorem fits_i (k : Str) (hk : PyData.strOk k = true) (v : Int) : s_fits [.fr (.str k), .fr (.int v)] = .ok (.fr (.bl (fitK k v))) [none, none] := by
  rw [s_fits, sem2_app _ _ _ rfl rfl]
  by_cases h1 : k = "r"
  · subst h1; simp [c_fits, fitK]
  by_cases h2 : k = "f"
  · subst h2; simp [c_fits, fitK]
  by_cases h3 : k = "p"
  · subst h3; simp [c_fits, fitK]
  by_cases h4 : k = "t"
  · subst h4; simp [c_fits, fitK]
  simp [c_fits, fitK, hk, h1, h2, h3, h4]
def zipD (f : Str) (vs : List Int) : List D := ((kinds f).zip vs).map fun p => .tup [.str p.1, .int p.2]
theorem zip_its (f : Str) (vs : List Int) : (((f.cps.toList.map fun c => D.str ⟨#[c]⟩).zip (vs.map D.int)).map fun p => D.tup [p.1, p.2]) = ((kinds f).zip vs).map fun p => D.tup [.str p.1, .int p.2] := by
  rw [its_kinds, List.zip_map, List.map_map]
  rfl
theorem is_instr_k (w f : Str) (vs : List Int) (hf : PyData.strOk f = true) (hl : f.length < 100) : ev K4 c_is_instruction_k1 [some (.fr (insD w vs)), some (.fr (.str f)), none, none] = .ok (.fr (.lst (((kinds f).zip vs).map fun p => .bl (fitK p.1 p.2)))) [some (.fr (insD w vs)), some (.fr (.str f)), none, none] := by
  refine com_map (xs := (kinds f).zip vs) (dd := fun p => .tup [.str p.1, .int p.2]) rfl rfl ?_ (by rw [List.length_zip, kinds_len]; omega) fun p hp => ?_
  · simp [insD, zip_its]
  · have hm := List.of_mem_zip hp
    simp [strOk_one hf hm.1]
@[simp] theorem is_instr {w f : Str} {vs : List Int} (h : forms.lookup w = some f) : s_is_instruction [.fr (insD w vs)] = .ok (.fr (.bl (decide (vs.length = f.length) && ((kinds f).zip vs).all fun p => fitK p.1 p.2))) [none] := by
  obtain ⟨hw, hf, hl, h0⟩ := forms_ok h
  have hlk : gd_FORMS.lookup w = some (.str f) := by
    show formsD.lookup w = _
    unfold formsD; rw [lookup_map, h]; rfl
  have hk := is_instr_k w f vs hf hl
  rw [s_is_instruction, sem2_app _ _ _ rfl rfl]
  simp only [insD] at hk ⊢
  have hl2 : f.length ≤ 16777216 := by omega
  have hd : decide ((vs.length : Int) = (f.length : Int)) = decide (vs.length = f.length) := decide_eq_decide.mpr (by omega)
  simp [c_is_instruction, hlk, hk, hw, hl2, hd]
theorem is_within_i {w : Str} {vs : List Int} {z n : Int} (hw : PyData.strOk w = true) (hv : vs.getLast? = some z) : s_is_within [.fr (insD w vs), .fr (.int n)] = .ok (.fr (.bl (!jmp w || decide (z ≤ n)))) [none, none] := by
  have e1 : (D.str w :: vs.map D.int).getLast? = some (.int z) := by
    rw [List.getLast?_cons, List.getLast?_map, hv]
    rfl
  rw [s_is_within, sem2_app _ _ _ rfl rfl]
  simp [c_is_within, insD, hw, e1]
  cases jmp w <;> simp
/-- an instruction for a program of n lines -/
structure GoodI (n : Nat) (w f : Str) (vs : List Int) : Prop where
  look : forms.lookup w = some f
  len : vs.length = f.length
  fit : ((kinds f).zip vs).all (fun p => fitK p.1 p.2) = true
  within : ∀ z, vs.getLast? = some z → jmp w = true → z ≤ n
theorem GoodI.ins {n : Nat} {w f : Str} {vs : List Int} (g : GoodI n w f vs) : s_is_instruction [.fr (insD w vs)] = .ok (.fr (.bl true)) [none] := by
  rw [is_instr g.look, g.fit, decide_eq_true g.len]
  rfl
theorem GoodI.wit {n : Nat} {w f : Str} {vs : List Int} (g : GoodI n w f vs) : s_is_within [.fr (insD w vs), .fr (.int n)] = .ok (.fr (.bl true)) [none, none] := by
  obtain ⟨h1, h2, h3, h4⟩ := forms_ok g.look
  obtain ⟨z, hz⟩ : ∃ z, vs.getLast? = some z := by
    cases q : vs.getLast? with
    | none =>
      rw [List.getLast?_eq_none_iff] at q
      have := g.len
      rw [q] at this
      simp at this
      omega
    | some z => exact ⟨z, rfl⟩
  rw [is_within_i h1 hz]
  cases q : jmp w with
  | false => rfl
  | true => rw [decide_eq_true (g.within z hz q)]; rfl
/-- a program's lines -/


def GoodP (n : Nat) (p : Ins) : Prop := ∃ f, GoodI n p.1 f p.2
def prgD (l : List Ins) : D := .obj 0 [.tup (l.map insP), .bl (!l.any fun p => jmp p.1)]
theorem init_b1 (xs : List Ins) (n : Nat) (hn : n = xs.length) (X : D) (hX : X = .lst (xs.map insP) ∨ X = .tup (xs.map insP)) : ∀ (l : List Ins), (∀ p ∈ l, GoodP n p) → ∀ o, ∃ o', for2 (as2 K7 (.nam 2)) (ess2 K7 c_Program_init_b1) (l.map insP) [some (.ob 0 []), some (.fr X), o, none] = .ok .nx [some (.ob 0 []), some (.fr X), o', none]
  | [], _, o => ⟨o, rfl⟩
  | p :: l, h, o => by
    obtain ⟨f, g⟩ := h p List.mem_cons_self
    obtain ⟨o', r⟩ := init_b1 xs n hn X hX l (fun q hq => h q (List.mem_cons_of_mem _ hq)) (some (.fr (insP p)))
    refine ⟨o', ?_⟩
    rw [List.map_cons, for2_step (e1 := [some (.ob 0 []), some (.fr X), some (.fr (insP p)), none]) (e2 := [some (.ob 0 []), some (.fr X), some (.fr (insP p)), none]) rfl ?_, r]
    have g1 := g.ins
    have g2 := g.wit
    unfold insP
    rcases hX with rfl | rfl <;> simp [c_Program_init_b1, g1, ← hn, g2]
end G71
end
section
set_option Elab.async false
set_option linter.all false
set_option maxRecDepth 100000
set_option maxHeartbeats 4000000
namespace G71
open PySem PySem.Spec PyProof.Rows L2 SX
theorem GoodP.ok {n : Nat} {p : Ins} (g : GoodP n p) : PyData.strOk p.1 = true := by
  obtain ⟨f, g⟩ := g
  exact (forms_ok g.look).1
theorem init_k1 (xs : List Ins) (h : ∀ p ∈ xs, PyData.strOk p.1 = true) (hl : xs.length ≤ 200) (v o : Option Vl) : ev K7 c_Program_init_k1 [some (.ob 0 [.fr (.tup (xs.map insP))]), v, o, none] = .ok (.fr (.lst (xs.map fun p => .bl (jmp p.1)))) [some (.ob 0 [.fr (.tup (xs.map insP))]), v, o, none] := by
  refine com_map (xs := xs) (dd := insP) rfl rfl ?_ (by omega) fun p hp => ?_
  · simp
  · have := h p hp
    simp [insP, insD, this]
@[simp] theorem prg_init (xs : List Ins) (h : ∀ p ∈ xs, GoodP xs.length p) (hl : xs.length ≤ 200) (X : D) (hX : X = .lst (xs.map insP) ∨ X = .tup (xs.map insP)) : s_Program_init [.ob 0 [], .fr X] = .ok (.fr .non) [some (.ob 0 [.fr (.tup (xs.map insP)), .fr (.bl (!xs.any fun p => jmp p.1))]), none] := by
  obtain ⟨o', r⟩ := init_b1 xs xs.length rfl X hX xs h none
  have k := init_k1 xs (fun p hp => (h p hp).ok) hl (some (.fr X)) o'
  have hl2 : ¬ (200 : Int) < (xs.length : Int) := by omega
  rw [s_Program_init, sem2_app _ _ _ rfl rfl]
  rcases hX with rfl | rfl <;> simp [c_Program_init, r, k, hl2, List.any_map, Function.comp_def]
end G71
end
section
set_option Elab.async false
set_option linter.all false
set_option maxRecDepth 100000
set_option maxHeartbeats 4000000
namespace G71
open PySem PySem.Spec PyProof.Rows L2 SX TX
theorem parse_count_k (l : List Nat) (hl : l.length ≤ 200) : ev K14 c_parse_count_k1 [some (.fr (.str (mk l))), none] = .ok (.fr (.lst (l.map fun c => .bl (isDig c)))) [some (.fr (.str (mk l))), none] := by
  refine com_map (xs := l) (dd := fun c => .str (mk [c])) rfl rfl ?_ (by omega) fun c _ => ?_
  · simp
  · simp
@[simp] theorem parse_count_r (l : List Nat) (hok : okc l = true) (hl : l.length ≤ 16777216) : s_parse_count [.fr (.str (mk l))] = .ok (.fr (optN (pCount l))) [none] := by
  rw [s_parse_count, sem2_app _ _ _ rfl rfl]
  by_cases h1 : 1 ≤ l.length ∧ l.length ≤ 200
  · have k := parse_count_k l h1.2
    have g1 : (1 : Int) ≤ l.length := by omega
    have g2 : (l.length : Int) ≤ 200 := by omega
    by_cases h2 : l.all isDig = true
    · have ht := ints_text h2 (fun z => by rw [z] at h1; simp at h1) (by omega)
      by_cases h3 : l = [48]
      · subst h3
        simp [c_parse_count, k, pCount, h1, isDig, lit_zero, ht, optN, okc, NumText.digitsVal] at *
      · by_cases h4 : l.head? = some 48
        · simp [c_parse_count, k, pCount, h1, h2, h3, h4, hl, hok, g1, g2, lit_zero, ht, optN]
          done
        · have g3 : l.length ≤ 640 := by omega
          simp [c_parse_count, k, pCount, h1, h2, h3, h4, hl, hok, g1, g2, g3, lit_zero, ht, optN]
    · simp [c_parse_count, k, pCount, h1, h2, hl, hok, g1, g2, optN]
      done
  · have g : ¬ ((1 : Int) ≤ l.length ∧ (l.length : Int) ≤ 200) := by omega
    have e : pCount l = none := by
      unfold pCount
      rw [if_neg (fun z => h1 ⟨z.1, z.2.1⟩)]
    by_cases g1 : (1 : Int) ≤ l.length
    · have g2 : ¬ (l.length : Int) ≤ 200 := by omega
      simp [c_parse_count, e, g1, g2, hl, optN]
    · simp [c_parse_count, e, g1, hl, optN]
@[simp] theorem parse_integer_r (l : List Nat) (hok : okc l = true) (hl : l.length ≤ 16777216) : s_parse_integer [.fr (.str (mk l))] = .ok (.fr (optI (pInt l))) [none] := by
  rw [s_parse_integer, sem2_app _ _ _ rfl rfl]
  by_cases h : l.head? = some 45
  · have k := parse_count_r l.tail (okc_tail hok) (by rw [List.length_tail]; omega)
    cases e : pCount l.tail with
    | none =>
      rw [e] at k
      simp [c_parse_integer, lit_dash, h, hl, k, pInt, e]
    | some n =>
      rw [e] at k
      by_cases hn : n = 0
      · subst hn
        simp [c_parse_integer, lit_dash, h, hl, k, pInt, e]
      · have hn' : ¬ (n : Int) = 0 := by omega
        simp [c_parse_integer, lit_dash, h, hl, k, pInt, e, hn, hn']
  · have k := parse_count_r l hok hl
    cases e : pCount l with
    | none =>
      rw [e] at k
      simp [c_parse_integer, lit_dash, h, hl, k, pInt, e]
    | some n =>
      rw [e] at k
      simp [c_parse_integer, lit_dash, h, hl, k, pInt, e]
end G71
end
section
set_option Elab.async false
set_option linter.all false
set_option maxRecDepth 100000
set_option maxHeartbeats 4000000
namespace G71
open PySem PySem.Spec PyProof.Rows L2 SX TX
@[simp] theorem format_item_r (k : Str) (v : Int) (hk : PyData.strOk k = true) (hl : k.length = 1) (hv : SX.strOk v = true) : s_format_item [.fr (.str k), .fr (.int v)] = .ok (.fr (.str (mk (itemL k v)))) [none, none] := by
  have h1 := log_len hv
  have h2 : 1 + (intL v).length ≤ 16777216 := by omega
  rw [s_format_item, sem2_app _ _ _ rfl rfl]
  by_cases h : k = "r" ∨ k = "f"
  · have e : k ++ mk (intL v) = mk (tl k ++ intL v) := by rw [← mk_app, mk_tl]
    have e0 : Str.empty ++ k = k := by refine ext ?_; rw [tl_app]; rfl
    have e1 : Str.empty.length = 0 := rfl
    rcases h with rfl | rfl <;> simp [c_format_item, hv, str_int, e0, e1, hl, h2, e, itemL]
  · have e1 : ¬ k = "r" := fun z => h (.inl z)
    have e2 : ¬ k = "f" := fun z => h (.inr z)
    simp [c_format_item, e1, e2, hk, hv, str_int, itemL]
theorem format_ins_k (p : Ins) (f : Str) (hf : PyData.strOk f = true) (hl : f.length < 100) (hv : ∀ v ∈ p.2, SX.strOk v = true) : ev K17 c_format_instruction_k1 [some (.fr (insP p)), some (.fr (.str f)), none, none] = .ok (.fr (.lst (((kinds f).zip p.2).map fun q => .str (mk (itemL q.1 q.2))))) [some (.fr (insP p)), some (.fr (.str f)), none, none] := by
  refine com_map (xs := (kinds f).zip p.2) (dd := fun p => .tup [.str p.1, .int p.2]) rfl rfl ?_ (by rw [List.length_zip, kinds_len]; omega) fun q hq => ?_
  · simp [insP, insD, zip_its]
  · have hm := List.of_mem_zip hq
    simp [strOk_one hf hm.1, kind_one hm.1, hv _ hm.2]
theorem lineL_len {p : Ins} {f : Str} (h : forms.lookup p.1 = some f) (hv : ∀ v ∈ p.2, SX.strOk v = true) : (lineL p).length ≤ 70000 ∧ ((((tl p.1 :: ((kinds f).zip p.2).map fun q => itemL q.1 q.2).map (·.length)).sum + (tl p.1 :: ((kinds f).zip p.2).map fun q => itemL q.1 q.2).length * 1) ≤ 70000) := by
  obtain ⟨hw, hf, hl, h0⟩ := forms_ok h
  have w := forms_w h
  rw [len_tl] at w
  have e : lineL p = insL f p := by unfold lineL formOf; rw [h]; rfl
  have n : ((kinds f).zip p.2).length ≤ 99 := by rw [List.length_zip, kinds_len]; omega
  have m := sum_le (k := 601) (l := (((kinds f).zip p.2).map fun q => itemL q.1 q.2).map (·.length)) fun x hx => by
    obtain ⟨y, hy, rfl⟩ := List.mem_map.mp hx
    obtain ⟨q, hq, rfl⟩ := List.mem_map.mp hy
    have hm := List.of_mem_zip hq
    exact itemL_len (kind_one hm.1) (hv _ hm.2)
  have key : (((tl p.1 :: ((kinds f).zip p.2).map fun q => itemL q.1 q.2).map (·.length)).sum + (tl p.1 :: ((kinds f).zip p.2).map fun q => itemL q.1 q.2).length * 1) ≤ 70000 := by
    rw [List.map_cons, List.sum_cons, List.length_cons, List.length_map]
    rw [List.length_map, List.length_map] at m
    have : ((kinds f).zip p.2).length * 601 ≤ 99 * 601 := Nat.mul_le_mul_right _ n
    omega
  refine ⟨?_, key⟩
  rw [e]
  unfold insL
  exact Nat.le_trans (joinL_len _ _) key
@[simp] theorem format_ins_r (p : Ins) (f : Str) (h : forms.lookup p.1 = some f) (hv : ∀ v ∈ p.2, SX.strOk v = true) : s_format_instruction [.fr (insP p)] = .ok (.fr (.str (mk (lineL p)))) [none] := by
  obtain ⟨hw, hf, hl, h0⟩ := forms_ok h
  have hlk : gd_FORMS.lookup p.1 = some (.str f) := by
    show formsD.lookup p.1 = _
    unfold formsD; rw [lookup_map, h]; rfl
  have k := format_ins_k p f hf hl hv
  have n : ((kinds f).zip p.2).length ≤ 99 := by rw [List.length_zip, kinds_len]; omega
  have g := (lineL_len h hv).2
  have e : lineL p = insL f p := by unfold lineL formOf; rw [h]; rfl
  simp only [insP, insD] at k
  have q1 : ev K17 (.lst (.one (.idx (.var 0) (.con (.int 0))) (.sta c_format_instruction_k1 .nil))) [some (.fr (.tup (.str p.1 :: p.2.map .int))), some (.fr (.str f)), none, none] = .ok (.fr (.lst ((tl p.1 :: ((kinds f).zip p.2).map fun q => itemL q.1 q.2).map fun y => .str (mk y)))) [some (.fr (.tup (.str p.1 :: p.2.map .int))), some (.fr (.str f)), none, none] := by
    have hm : mk (tl p.1) = p.1 := mk_tl _
    simp [k, hm]
    rw [if_pos]
    · simp [Function.comp_def]
    · simp at n
      omega
  have q2 := join_ev (s := [32]) q1 (by simpa using Nat.le_trans g (by decide))
  rw [s_format_instruction, sem2_app _ _ _ rfl rfl]
  rw [← lit_space] at q2
  simp [-x_join, c_format_instruction, insP, insD, hlk, q2, e, insL]
/-- a program's line that can be written -/
def LineOk (p : Ins) : Prop := (∃ f, forms.lookup p.1 = some f) ∧ ∀ v ∈ p.2, SX.strOk v = true
theorem LineOk.len {p : Ins} (h : LineOk p) : (lineL p).length ≤ 70000 := by
  obtain ⟨⟨f, hf⟩, hv⟩ := h
  exact (lineL_len hf hv).1
@[simp] theorem prg_instr (l : List Ins) : s_Program_instructions [.fr (prgD l)] = .ok (.fr (.tup (l.map insP))) [none] := by
  rw [s_Program_instructions, sem2_app _ _ _ rfl rfl]
  simp [c_Program_instructions, prgD]
theorem format_prg_k (l : List Ins) (h : ∀ p ∈ l, LineOk p) (hl : l.length ≤ 200) : ev K18 c_format_program_k1 [some (.fr (prgD l)), none] = .ok (.fr (.lst (l.map fun p => .str (mk (lineL p))))) [some (.fr (prgD l)), none] := by
  refine com_map (xs := l) (dd := insP) rfl rfl ?_ (by omega) fun p hp => ?_
  · have := prg_instr l
    simp only [prgD] at this
    simp [prgD, this]
  · obtain ⟨⟨f, hf⟩, hv⟩ := h p hp
    have := format_ins_r p f hf hv
    simp [this]
@[simp] theorem format_prg_r (l : List Ins) (h : ∀ p ∈ l, LineOk p) (hl : l.length ≤ 200) : s_format_program [.fr (prgD l)] = .ok (.fr (.str (mk (textL l)))) [none] := by
  have k := format_prg_k l h hl
  have e : (l.map fun p => D.str (mk (lineL p))) = (l.map lineL).map fun y => D.str (mk y) := by rw [List.map_map]; rfl
  rw [e] at k
  have m := sum_le (k := 70000) (l := (l.map lineL).map (·.length)) fun x hx => by
    obtain ⟨y, hy, rfl⟩ := List.mem_map.mp hx
    obtain ⟨p, hp, rfl⟩ := List.mem_map.mp hy
    exact (h p hp).len
  rw [List.length_map, List.length_map] at m
  have hs : ((l.map lineL).map (·.length)).sum + (l.map lineL).length * [10].length ≤ 16777216 := by
    rw [List.length_map, List.length_singleton]
    have : l.length * 70000 ≤ 200 * 70000 := Nat.mul_le_mul_right _ hl
    omega
  have q2 := join_ev (s := [10]) k hs
  rw [← lit_nl] at q2
  rw [s_format_program, sem2_app _ _ _ rfl rfl]
  simp [-x_join, c_format_program, q2, textL]
end G71
end
section
set_option Elab.async false
set_option linter.all false
set_option maxRecDepth 100000
set_option maxHeartbeats 4000000
namespace G71
open PySem PySem.Spec PyProof.Rows L2 SX TX
@[simp] theorem parse_item_r (k : Str) (w : List Nat) (hk : PyData.strOk k = true) (hok : okc w = true) (hl : w.length ≤ 16777216) : s_parse_item [.fr (.str k), .fr (.str (mk w))] = .ok (.fr (optI (pItem k w))) [none, none] := by
  have k1 := parse_count_r w.tail (okc_tail hok) (by rw [List.length_tail]; omega)
  have k2 := parse_integer_r w hok hl
  rw [s_parse_item, sem2_app _ _ _ rfl rfl]
  by_cases h1 : k = "r"
  · subst h1
    by_cases h : w.head? = some 114
    · cases e : pCount w.tail <;> rw [e] at k1 <;> simp [c_parse_item, pItem, h, hl, k1, e, optI]
    · simp [c_parse_item, pItem, h, hl, k1, optI]
  by_cases h2 : k = "f"
  · subst h2
    by_cases h : w.head? = some 102
    · cases e : pCount w.tail <;> rw [e] at k1 <;> simp [c_parse_item, pItem, h, hl, k1, e, optI]
    · simp [c_parse_item, pItem, h, hl, k1, optI]
  simp [c_parse_item, pItem, h1, h2, hk, k2]
theorem parse_ins_k1 (w : List Nat) (ws : List (List Nat)) (f : Str) (hlk : gd_FORMS.lookup (mk w) = some (.str f)) (hf : PyData.strOk f = true) (hl : f.length < 100) (hok : ∀ x ∈ ws, okc x = true ∧ x.length ≤ 16777216) (a : Option Vl) : ev K20 c_parse_instruction_k1 [a, none, some (.fr (.str (mk w))), some (.fr (.lst (ws.map fun x => .str (mk x)))), none, none] = .ok (.fr (.lst (((kinds f).zip ws).map fun q => optI (pItem q.1 q.2)))) [a, none, some (.fr (.str (mk w))), some (.fr (.lst (ws.map fun x => .str (mk x)))), none, none] := by
  refine com_map (xs := (kinds f).zip ws) (dd := fun p => .tup [.str p.1, .str (mk p.2)]) rfl rfl ?_ (by rw [List.length_zip, kinds_len]; omega) fun q hq => ?_
  · simp [hlk]
    rw [its_kinds, List.zip_map, List.map_map]
    rfl
  · have hm := List.of_mem_zip hq
    have := hok _ hm.2
    simp [strOk_one hf hm.1, this.1, this.2]
theorem parse_ins_k2 (os : List (Option Int)) (hl : os.length < 100) (a b c d : Option Vl) : ev K20 c_parse_instruction_k2 [a, some (.fr (.lst (os.map optI))), b, c, d, none] = .ok (.fr (.lst (os.map fun o => .bl o.isNone))) [a, some (.fr (.lst (os.map optI))), b, c, d, none] := by
  refine com_map (xs := os) (dd := optI) rfl rfl ?_ (by omega) fun o _ => ?_
  · simp
  · cases o <;> simp
theorem splitD (l : List Nat) : (Txt.split (mk l) (mk [32])).map D.str = (TL.spl [32] 0 [] l).map fun x => .str (mk x) := by
  rw [split_mk l 32 (by decide), List.map_map]
  rfl
theorem parse_ins_r (l : List Nat) (hok : okc l = true) (hl : l.length < 16000) : s_parse_instruction [.fr (.str (mk l))] = .ok (.fr (optP (pIns l))) [none] := by
  rw [s_parse_instruction, sem2_app _ _ _ rfl rfl]
  unfold pIns
  have hn := spl_len [32] l []
  have hw : ∀ x ∈ TL.spl [32] 0 [] l, okc x = true ∧ x.length ≤ 16777216 := fun x hx => ⟨spl_okc hok hx, by
    have := spl_wlen [32] l [] x hx
    simp at this
    omega⟩
  have hs := splitD l
  have hl2 : l.length ≤ 16777214 := by omega
  cases e : TL.spl [32] 0 [] l with
  | nil => exact absurd e (spl_ne _ _ _)
  | cons w ws =>
    rw [e] at hn hw hs
    have hwl : ws.length < 16384 := by simp at hn; omega
    rw [List.map_cons] at hs
    dsimp only
    cases e1 : forms.lookup (mk w) with
    | none =>
      have hlk : gd_FORMS.lookup (mk w) = none := by
        show formsD.lookup (mk w) = _
        unfold formsD; rw [lookup_map, e1]; rfl
      simp [c_parse_instruction, lit_space, hs, hl2, hwl, hlk]
    | some f =>
      have hlk : gd_FORMS.lookup (mk w) = some (.str f) := by
        show formsD.lookup (mk w) = _
        unfold formsD; rw [lookup_map, e1]; rfl
      obtain ⟨hwk, hf, hfl, hf0⟩ := forms_ok e1
      have hf2 : f.length ≤ 16777216 := by omega
      dsimp only
      by_cases hq : f.length = ws.length
      · rw [if_pos hq]
        have hq' : (f.length : Int) = ws.length := by omega
        have k1 := parse_ins_k1 w ws f hlk hf hfl (fun x hx => hw x (List.mem_cons_of_mem _ hx)) (some (.fr (.str (mk l))))
        have eo : (((kinds f).zip ws).map fun q => optI (pItem q.1 q.2)) = (((kinds f).zip ws).map fun q => pItem q.1 q.2).map optI := by rw [List.map_map]; rfl
        rw [eo] at k1
        have hol : (((kinds f).zip ws).map fun q => pItem q.1 q.2).length = f.length := by
          rw [List.length_map, List.length_zip, kinds_len]; omega
        generalize (((kinds f).zip ws).map fun q => pItem q.1 q.2) = os at k1 hol
        have k2 := parse_ins_k2 os (by omega) (some (.fr (.str (mk l)))) (some (.fr (.str (mk w)))) (some (.fr (.lst (ws.map fun x => .str (mk x))))) none
        cases e2 : allS os with
        | none =>
          have ha := allS_none e2
          simp [c_parse_instruction, lit_space, hs, hl2, hwl, hlk, hf2, hq', k1, k2, blsD_map, List.any_map, Function.comp_def, ha]
          done
        | some vs =>
          have ev := allS_some e2
          subst ev
          have hvl : vs.length = f.length := by simpa using hol
          have hne : vs ≠ [] := fun z => by rw [z] at hvl; simp at hvl; omega
          obtain ⟨z, hz⟩ : ∃ z, vs.getLast? = some z := by
            cases q : vs.getLast? with
            | none => exact absurd (List.getLast?_eq_none_iff.mp q) hne
            | some z => exact ⟨z, rfl⟩
          have hgl : (vs.map D.int).getLast? = some (.int z) := by rw [List.getLast?_map, hz]; rfl
          have emap : (vs.map some).map optI = vs.map D.int := by rw [List.map_map]; rfl
          rw [emap] at k1 k2
          have hany : ((vs.map some).map fun o : Option Int => D.bl o.isNone) = vs.map fun _ => D.bl false := by rw [List.map_map]; rfl
          rw [hany] at k2
          have hb : blsD (vs.map fun _ => D.bl false) = some (vs.map fun _ => false) := blsD_map (fun _ => false) vs
          have h1 : vs.length ≤ 16777215 := by omega
          have h2 : vs.length - 1 + 1 ≤ 16777215 := by omega
          have i1 := is_instr (vs := vs) e1
          have i2 := is_instr (vs := vs.dropLast ++ [0]) e1
          have j1 : s_is_instruction [.fr (insD (mk w) vs)] = .ok (.fr (.bl (insOk (mk w) f vs))) [none] := i1
          have j2 : s_is_instruction [.fr (insD (mk w) (vs.dropLast ++ [0]))] = .ok (.fr (.bl (insOk (mk w) f (vs.dropLast ++ [0])))) [none] := i2
          simp only [insD, List.map_append, List.map_dropLast, List.map_cons, List.map_nil] at j1 j2
          by_cases hj : jmp (mk w) = true
          · by_cases hp : 0 ≤ z
            · cases hB : insOk (mk w) f (vs.dropLast ++ [0]) <;> rw [hB] at j2 <;> simp [c_parse_instruction, lit_space, hs, hl2, hwl, hlk, hf2, hq', k1, k2, hb, hwk, hj, hz, hgl, hp, h1, h2, j2, hB, insP, insD]
            · simp [c_parse_instruction, lit_space, hs, hl2, hwl, hlk, hf2, hq', k1, k2, hb, hwk, hj, hz, hgl, hp, h1, h2, insP, insD]
          · cases hB : insOk (mk w) f vs <;> rw [hB] at j1 <;> simp [c_parse_instruction, lit_space, hs, hl2, hwl, hlk, hf2, hq', k1, k2, hb, hwk, hj, h1, h2, j1, hB, insP, insD]
      · rw [if_neg hq]
        have hq' : ¬ (f.length : Int) = ws.length := by omega
        simp [c_parse_instruction, lit_space, hs, hl2, hwl, hlk, hf2, hq']
end G71
end
section
set_option Elab.async false
set_option linter.all false
set_option maxRecDepth 100000
set_option maxHeartbeats 4000000
namespace G71
open PySem PySem.Spec PyProof.Rows L2 SX TX
theorem splitN (l : List Nat) : (Txt.split (mk l) (mk [10])).map D.str = (TL.spl [10] 0 [] l).map fun x => .str (mk x) := by
  rw [split_mk l 10 (by decide), List.map_map]
  rfl
@[simp] theorem lines_of_r (l : List Nat) (hok : okc l = true) (hl : l.length ≤ 16777214) : s_lines_of [.fr (.str (mk l))] = .ok (.fr (.lst ((linesL l).map fun x => .str (mk x)))) [none] := by
  have hs := splitN l
  rw [s_lines_of, sem2_app _ _ _ rfl rfl]
  unfold linesL
  by_cases h : l = []
  · subst h
    simp [c_lines_of, lit_empty]
  · simp [c_lines_of, lit_empty, lit_nl, h, hok, hl, hs]
def enuF (k : Nat) (l : List D) : List D := (l.zipIdx k).map fun p => .tup [.int (p.2 : Nat), p.1]
theorem enuD_F (l : List D) : enuD l = enuF 0 l := rfl
theorem enuF_cons (k : Nat) (d : D) (l : List D) : enuF k (d :: l) = .tup [.int (k : Nat), d] :: enuF (k + 1) l := by
  unfold enuF
  rw [List.zipIdx_cons, List.map_cons]
theorem rd_read {p : Ins} (r : RdI p) : s_parse_instruction [.fr (.str (mk (lineL p)))] = .ok (.fr (insP p)) [none] := by
  rw [parse_ins_r _ (line_okc r).1 (by have := line_len r; omega), pIns_line r]
  rfl
theorem pp_b1 (t : Option Vl) : ∀ (l : List Ins) (k : Nat) (acc : List D), (∀ p ∈ l, RdI p) → acc.length + l.length ≤ 16777215 → ∀ o2 o3 o4, ∃ o2' o3' o4', for2 (as2 K22 (.tup (.cons (.nam 2) (.cons (.nam 3) .nil)))) (ess2 K22 c_parse_program_b1) (enuF k (l.map fun p => .str (mk (lineL p)))) [t, some (.ls acc), o2, o3, o4] = .ok .nx [t, some (.ls (acc ++ l.map insP)), o2', o3', o4']
  | [], k, acc, _, _, o2, o3, o4 => ⟨o2, o3, o4, by simp [enuF, for2_nil]⟩
  | p :: l, k, acc, h, hl, o2, o3, o4 => by
    have hl' : acc.length + (l.length + 1) ≤ 16777215 := hl
    have hp := rd_read (h p List.mem_cons_self)
    obtain ⟨a, b, c, r⟩ := pp_b1 t l (k + 1) (acc ++ [insP p]) (fun q hq => h q (List.mem_cons_of_mem _ hq)) (by simp; omega) (some (.fr (.int (k : Nat)))) (some (.fr (.str (mk (lineL p))))) (some (.fr (insP p)))
    refine ⟨a, b, c, ?_⟩
    rw [List.map_cons, enuF_cons, for2_step (e1 := [t, some (.ls acc), some (.fr (.int (k : Nat))), some (.fr (.str (mk (lineL p)))), o4]) (e2 := [t, some (.ls (acc ++ [insP p])), some (.fr (.int (k : Nat))), some (.fr (.str (mk (lineL p)))), some (.fr (insP p))]) (by simp) ?_, r]
    · simp
    · have ha : acc.length < 16777216 := by omega
      have hn : (insP p).isNon = false := rfl
      simp [c_parse_program_b1, hp, ha, hn]
theorem mak_prg (K : Cx2) (hK : K.ini 0 1 = some s_Program_init) (xs : List Ins) (h : ∀ p ∈ xs, GoodP xs.length p) (hl : xs.length ≤ 200) (e : VE) : (makeS (K.ini 0 1) 0 [.val (.fr (.lst (xs.map insP)))] e).bnd frzM = .ok (.fr (prgD xs)) e := by
  have i := prg_init xs h hl (.lst (xs.map insP)) (.inl rfl)
  rw [hK]
  simp [i, prgD]
theorem textL_len {l : List Ins} (h : ∀ p ∈ l, RdI p) (hl : l.length ≤ 200) : (textL l).length ≤ 16777214 ∧ okc (textL l) = true := by
  constructor
  · have j := joinL_len [10] (l.map lineL)
    have m := sum_le (k := 2000) (l := (l.map lineL).map (·.length)) fun x hx => by
      obtain ⟨y, hy, rfl⟩ := List.mem_map.mp hx
      obtain ⟨p, hp, rfl⟩ := List.mem_map.mp hy
      exact line_len (h p hp)
    rw [List.length_map, List.length_map] at m
    rw [List.length_map, List.length_singleton] at j
    have : l.length * 2000 ≤ 200 * 2000 := Nat.mul_le_mul_right _ hl
    unfold textL
    omega
  · refine List.all_eq_true.mpr fun c hc => ?_
    unfold textL at hc
    rcases joinL_mem _ _ _ hc with z | ⟨y, hy, z⟩
    · rw [List.mem_singleton.mp z]; rfl
    · obtain ⟨p, hp, rfl⟩ := List.mem_map.mp hy
      exact List.all_eq_true.mp (line_okc (h p hp)).1 c z
/-- a text that a program was written to is read back -/
theorem parse_prg_back (l : List Ins) (hg : ∀ p ∈ l, GoodP l.length p) (h : ∀ p ∈ l, RdI p) (hl : l.length ≤ 200) : s_parse_program [.fr (.str (mk (textL l)))] = .ok (.fr (prgD l)) [none] := by
  obtain ⟨h1, h2⟩ := textL_len h hl
  have k := lines_of_r (textL l) h2 h1
  rw [lines_text h, List.map_map] at k
  obtain ⟨a, b, c, r⟩ := pp_b1 (some (.fr (.str (mk (textL l))))) l 0 [] h (by simp; omega) none none none
  have m := mak_prg K22 rfl l hg hl
  rw [s_parse_program, sem2_app _ _ _ rfl rfl]
  simp [c_parse_program, k, enuD_F, Function.comp_def]
  simp at r
  simp [r]
  have m2 := m [some (Vl.fr (D.str (mk (textL l)))), none, a, b, c]
  simp at m2
  simp [m2]
end G71
end
section
set_option Elab.async false
set_option linter.all false
set_option maxRecDepth 100000
set_option maxHeartbeats 4000000
namespace G71
open PySem PySem.Spec PyProof.Rows L2 SX TX
theorem is_name_k (l : List Nat) (hl : l.length ≤ 8) : ev K13 c_is_name_k1 [some (.fr (.str (mk l))), none] = .ok (.fr (.lst (l.map fun c => .bl (isLet c)))) [some (.fr (.str (mk l))), none] := by
  refine com_map (xs := l) (dd := fun c => .str (mk [c])) rfl rfl ?_ (by omega) fun c _ => ?_
  · simp
  · simp
@[simp] theorem is_name_r (l : List Nat) (hl : l.length ≤ 16777216) : s_is_name [.fr (.str (mk l))] = .ok (.fr (.bl (isNm l))) [none] := by
  rw [s_is_name, sem2_app _ _ _ rfl rfl]
  unfold isNm
  by_cases h1 : 1 ≤ l.length
  · have g1 : (1 : Int) ≤ l.length := by omega
    by_cases h2 : l.length ≤ 8
    · have g2 : (l.length : Int) ≤ 8 := by omega
      have k := is_name_k l h2
      simp [c_is_name, hl, h1, h2, g1, g2, k, blsD_map, List.all_map, Function.comp_def]
    · have g2 : ¬ (l.length : Int) ≤ 8 := by omega
      simp [c_is_name, hl, h1, h2, g1, g2]
  · have g1 : ¬ (1 : Int) ≤ l.length := by omega
    simp [c_is_name, hl, h1, g1]
theorem named_r (l : List Nat) (hok : okc l = true) (hl : l.length < 16000) : s_named_target [.fr (.str (mk l))] = .ok (.fr (.tup [.str (mk (namedL l).1), optS (namedL l).2])) [none] := by
  have hn := spl_len [32] l []
  have hw : ∀ x ∈ TL.spl [32] 0 [] l, okc x = true ∧ x.length ≤ l.length := fun x hx => ⟨spl_okc hok hx, by
    have := spl_wlen [32] l [] x hx
    simpa using this⟩
  have hs := splitD l
  have hl2 : l.length ≤ 16777214 := by omega
  rw [s_named_target, sem2_app _ _ _ rfl rfl]
  unfold namedL
  cases e : TL.spl [32] 0 [] l with
  | nil => exact absurd e (spl_ne _ _ _)
  | cons w ws =>
    rw [e] at hn hw hs
    have hwl : ws.length < 16384 := by simp at hn; omega
    have hwk : PyData.strOk (mk w) = true := by rw [ok_mk]; exact (hw w List.mem_cons_self).1
    rw [List.map_cons] at hs
    dsimp only
    have hne : ∀ ws : List (List Nat), (∀ x ∈ ws, okc x = true) → cmpD .ne (.lst (ws.map fun x => .str (mk x))) (.lst []) = some (!ws.isEmpty) := fun ws hx => by
      have q := (Enc.lst Enc.str).eqP (by decide) (a := ws.map mk) (b := []) (fun x hm => by
        obtain ⟨y, hy, rfl⟩ := List.mem_map.mp hm
        rw [ok_mk]; exact hx y hy) (by simp)
      show negO true (eqP (.lst (ws.map fun x => .str (mk x))) (.lst [])) = _
      have e2 : (ws.map fun x => D.str (mk x)) = (ws.map mk).map D.str := by rw [List.map_map]; rfl
      rw [e2]
      rw [List.map_nil] at q
      rw [q]
      cases ws <;> simp
    have hne := hne ws fun x hx => (hw x (List.mem_cons_of_mem _ hx)).1
    by_cases hj : jmp (mk w) = true
    · rcases List.eq_nil_or_concat ws with rfl | ⟨us, x, rfl⟩
      · simp at hne
        simp [c_named_target, lit_space, hs, hl2, hwl, hwk, hj, hne]
      · have hx := hw x (by simp)
        have hx2 : x.length ≤ 16777216 := by omega
        have kn := is_name_r x hx2
        simp only [List.concat_eq_append, List.map_append, List.map_cons, List.map_nil, List.getLast?_append, List.getLast?_singleton] at hne hs hwl ⊢
        simp at hwl hne
        cases hb : isNm x with
        | false =>
          rw [hb] at kn
          simp [c_named_target, lit_space, hs, hl2, hwl, hwk, hj, hne, kn, hb]
        | true =>
          rw [hb] at kn
          have hus : us.length ≤ 16777214 := by omega
          have q1 : ∀ e : VE, e[1]? = some (some (.fr (.str (mk w)))) → e[2]? = some (some (.fr (.lst ((us.map fun x => D.str (mk x)) ++ [.str (mk x)])))) → ev K23 (.lst (.one (.var 1) (.sta (.slc (.var 2) .no (.so (.neg (.con (.int 1))))) (.one (.con (.str "0")) .nil)))) e = .ok (.fr (.lst ((w :: (us ++ [[48]])).map fun y => .str (mk y)))) e := fun e e1 e2 => by
            simp [e1, e2, hus, lit_zero]
          have hsum := spl_sum [32] l []
          rw [e] at hsum
          simp at hsum hn
          have q2 := fun e e1 e2 => join_ev (s := [32]) (q1 e e1 e2) (by simp; omega)
          have q3 := q2 [some (.fr (.str (mk l))), some (.fr (.str (mk w))), some (.fr (.lst ((us.map fun x => D.str (mk x)) ++ [.str (mk x)])))] rfl rfl
          rw [← lit_space] at q3
          have hs' := hs
          rw [← lit_space] at hs'
          have e0 : ev K23 (.bmt .split (.var 0) (.one (.con (.str " ")) .nil)) [some (.fr (.str (mk l))), none, none] = .ok (.fr (.lst (D.str (mk w) :: ((us.map fun x => D.str (mk x)) ++ [.str (mk x)])))) [some (.fr (.str (mk l))), none, none] := by
            simp [lit_space, hs, hl2]
          simp [-x_join, -x_split, c_named_target, e0, hwl, hwk, hj, hne, kn, hb, q3]
    · have hj' : jmp (mk w) = false := by simpa using hj
      cases ws.getLast? <;> simp [c_named_target, lit_space, hs, hl2, hwl, hwk, hj']
end G71
end
section
set_option Elab.async false
set_option linter.all false
set_option maxRecDepth 100000
set_option maxHeartbeats 4000000
namespace G71
open PySem PySem.Spec PyProof.Rows L2 SX TX
theorem rd_named {p : Ins} (r : RdI p) : s_named_target [.fr (.str (mk (lineL p)))] = .ok (.fr (.tup [.str (mk (lineL p)), .non])) [none] := by
  rw [named_r _ (line_okc r).1 (by have := line_len r; omega), named_line r]
  rfl
def fndF (k : Nat) (l : List Ins) : List D := (l.zipIdx k).map fun p => .tup [.int (p.2 : Nat), insP p.1, .non]
theorem fndF_cons (k : Nat) (d : Ins) (l : List Ins) : fndF k (d :: l) = .tup [.int (k : Nat), insP d, .non] :: fndF (k + 1) l := by
  unfold fndF
  rw [List.zipIdx_cons, List.map_cons]
theorem fndF_len (k : Nat) (l : List Ins) : (fndF k l).length = l.length := by unfold fndF; simp
theorem as_b1 (t r : Option Vl) : ∀ (l : List Ins) (k : Nat) (acc : List D), (∀ p ∈ l, RdI p) → acc.length + l.length ≤ 16777215 → ∀ o4 o5 o6 o7 o8, ∃ o4' o5' o6' o7' o8', for2 (as2 K24 (.tup (.cons (.nam 4) (.cons (.nam 5) .nil)))) (ess2 K24 c_assemble_b1) (enuF k (l.map fun p => .str (mk (lineL p)))) [t, r, some (.di []), some (.ls acc), o4, o5, o6, o7, o8] = .ok .nx [t, r, some (.di []), some (.ls (acc ++ fndF k l)), o4', o5', o6', o7', o8']
  | [], k, acc, _, _, o4, o5, o6, o7, o8 => ⟨o4, o5, o6, o7, o8, by simp [enuF, fndF, for2_nil]⟩
  | p :: l, k, acc, h, hl, o4, o5, o6, o7, o8 => by
    have hl' : acc.length + (l.length + 1) ≤ 16777215 := hl
    have hr := h p List.mem_cons_self
    have hp := rd_read hr
    have hn := rd_named hr
    have hc : (lineL p).getLast? ≠ some 58 := fun z => (line_okc hr).2.2 (List.mem_of_getLast? z)
    obtain ⟨a, b, c, d, e, q⟩ := as_b1 t r l (k + 1) (acc ++ [.tup [.int (k : Nat), insP p, .non]]) (fun q hq => h q (List.mem_cons_of_mem _ hq)) (by simp; omega) (some (.fr (.int (k : Nat)))) (some (.fr (.str (mk (lineL p))))) (some (.fr (insP p))) (some (.fr .non)) (some (.fr (.str (mk (lineL p)))))
    refine ⟨a, b, c, d, e, ?_⟩
    rw [List.map_cons, enuF_cons, fndF_cons, for2_step (e1 := [t, r, some (.di []), some (.ls acc), some (.fr (.int (k : Nat))), some (.fr (.str (mk (lineL p)))), o6, o7, o8]) (e2 := [t, r, some (.di []), some (.ls (acc ++ [.tup [.int (k : Nat), insP p, .non]])), some (.fr (.int (k : Nat))), some (.fr (.str (mk (lineL p)))), some (.fr (insP p)), some (.fr .non), some (.fr (.str (mk (lineL p))))]) (by simp) ?_, q]
    · simp
    · have ha : acc.length < 16777216 := by omega
      have hnn : (insP p).isNon = false := rfl
      simp [c_assemble_b1, lit_colon, hc, hn, hp, ha, hnn]
theorem as_b2 (t d fd : Option Vl) : ∀ (l : List Ins) (k : Nat) (acc : List D), acc.length + l.length ≤ 16777215 → ∀ o4 o5 o6 o7 o8, ∃ o4' o5' o6' o7' o8', for2 (as2 K24 (.tup (.cons (.nam 4) (.cons (.nam 6) (.cons (.nam 7) .nil))))) (ess2 K24 c_assemble_b2) (fndF k l) [t, some (.ls acc), d, fd, o4, o5, o6, o7, o8] = .ok .nx [t, some (.ls (acc ++ l.map insP)), d, fd, o4', o5', o6', o7', o8']
  | [], k, acc, _, o4, o5, o6, o7, o8 => ⟨o4, o5, o6, o7, o8, by simp [fndF, for2_nil]⟩
  | p :: l, k, acc, hl, o4, o5, o6, o7, o8 => by
    have hl' : acc.length + (l.length + 1) ≤ 16777215 := hl
    obtain ⟨a, b, c, e, f, q⟩ := as_b2 t d fd l (k + 1) (acc ++ [insP p]) (by simp; omega) (some (.fr (.int (k : Nat)))) o5 (some (.fr (insP p))) (some (.fr .non)) o8
    refine ⟨a, b, c, e, f, ?_⟩
    rw [fndF_cons, for2_step (e1 := [t, some (.ls acc), d, fd, some (.fr (.int (k : Nat))), o5, some (.fr (insP p)), some (.fr .non), o8]) (e2 := [t, some (.ls (acc ++ [insP p])), d, fd, some (.fr (.int (k : Nat))), o5, some (.fr (insP p)), some (.fr .non), o8]) (by simp) ?_, q]
    · simp
    · have ha : acc.length < 16777216 := by omega
      simp [c_assemble_b2, ha]
/-- a text that a program was written to is read back by assemble, too -/
theorem assemble_back (l : List Ins) (hg : ∀ p ∈ l, GoodP l.length p) (h : ∀ p ∈ l, RdI p) (hl : l.length ≤ 200) : s_assemble [.fr (.str (mk (textL l)))] = .ok (.fr (prgD l)) [none] := by
  obtain ⟨h1, h2⟩ := textL_len h hl
  have k := lines_of_r (textL l) h2 h1
  rw [lines_text h, List.map_map] at k
  obtain ⟨a, b, c, d, e, r⟩ := as_b1 (some (.fr (.str (mk (textL l))))) none l 0 [] h (by simp; omega) none none none none none
  obtain ⟨a', b', c', d', e', r'⟩ := as_b2 (some (.fr (.str (mk (textL l))))) (some (.di [])) none l 0 [] (by simp; omega) a b c d e
  have m := mak_prg K24 rfl l hg hl
  rw [s_assemble, sem2_app _ _ _ rfl rfl]
  simp at r r'
  simp [c_assemble, k, enuD_F, Function.comp_def, r, r', D.isRef]
  have m2 := m [some (Vl.fr (D.str (mk (textL l)))), none, some (.di []), none, a', b', c', d', e']
  simp at m2
  simp [m2]
end G71
end
section
set_option Elab.async false
set_option linter.all false
set_option maxRecDepth 100000
set_option maxHeartbeats 4000000
namespace G71
open PySem PySem.Spec PyProof.Rows L2 SX TX
theorem pool_r (ns : List Int) (k : Nat) (hk : k < 64) : s__law_pool [.fr (.rol (ns.map .int)), .fr (.int k)] = .ok (.ls [.int (cellF ns k * (if 10 ^ 18 ≤ cellF ns k then 1 else 0)), .int (mixF (cellF ns k) k * mixF (cellF ns k) k % 2147483629)]) [none, none] := by
  have g1 : mulOk 7919 (k : Int) = true := mul_l (by decide) (by decide) _
  have g2 : mulOk (7919 * (k : Int)) k = true := mul_r (by omega) (by omega) _
  have g3 : mulOk 31 (k : Int) = true := mul_l (by decide) (by decide) _
  have g4 : ∀ x : Int, mulOk x 48271 = true := fun x => mul_r (by decide) (by decide) _
  have g5 : mulOk (mixF (cellF ns k) k) (mixF (cellF ns k) k) = true := mul_l (by have := mixF_nn (cellF ns k) k; omega) (by have := mixF_nn (cellF ns k) k; omega) _
  have g6 : mulOk (cellF ns k) (if 10 ^ 18 ≤ cellF ns k then 1 else 0) = true := by split <;> exact mul_r (by decide) (by decide) _
  have g7 : powOk 10 18 = true := by decide
  rw [s__law_pool, sem2_app _ _ _ rfl rfl]
  by_cases h : k < ns.length
  · have h' : (k : Int) < ns.length := by omega
    have ec : (if ns[k] < 0 then -ns[k] else ns[k]) = cellF ns k := by unfold cellF; simp [h]
    unfold mixF at g5 ⊢
    simp at g5 g6
    simp -implicitDefEqProofs [c__law_pool, h', h, ec, g1, g2, g3, g4, g5, g6, g7]
  · have h' : ¬ (k : Int) < ns.length := by omega
    have ec : cellF ns k = 0 := by unfold cellF; rw [List.getElem?_eq_none_iff.mpr (by omega)]
    unfold mixF at g5 ⊢
    rw [ec] at g5 g6 ⊢
    simp at g5 g6
    simp -implicitDefEqProofs [c__law_pool, h', g1, g2, g3, g4, g5, g6, g7]
theorem pool_ex (ns : List Int) (k : Nat) (hk : k < 64) : ∃ a b, PoolOk a b ∧ s__law_pool [.fr (.rol (ns.map .int)), .fr (.int k)] = .ok (.ls [.int a, .int b]) [none, none] := by
  refine ⟨_, _, ⟨?_, Int.emod_nonneg _ (by decide), Int.lt_trans (Int.emod_lt_of_pos _ (by decide)) (by decide)⟩, pool_r ns k hk⟩
  have := cellF_nn ns k
  split
  · omega
  · omega
theorem take_ex {a b c : Int} (h : PoolOk a b) (g1 : divOk c = true) : ∃ r a' b', 0 ≤ r ∧ r < c ∧ PoolOk a' b' ∧ s__law_take [.ls [.int a, .int b], .fr (.int c)] = .ok (.fr (.int r)) [some (.ls [.int a', .int b']), none] := by
  obtain ⟨ha, hb, hb2⟩ := h
  have hc : 0 < c := by
    unfold divOk at g1
    rw [Bool.and_eq_true] at g1
    exact of_decide_eq_true g1.1
  by_cases h0 : 0 < a
  · refine ⟨a % c, a / c, b, Int.emod_nonneg _ (by omega), Int.emod_lt_of_pos _ hc, ⟨Int.ediv_nonneg ha (by omega), hb, hb2⟩, ?_⟩
    rw [s__law_take, sem2_app _ _ _ rfl rfl]
    simp -implicitDefEqProofs [c__law_take, h0, hc, g1, SX.ixN, L2.ixN]
  · have m1 : 0 ≤ (b * 48271 + 12345) % 2147483647 := Int.emod_nonneg _ (by decide)
    have m2 : (b * 48271 + 12345) % 2147483647 < 2147483647 := Int.emod_lt_of_pos _ (by decide)
    have g2 : ∀ x : Int, mulOk x 48271 = true := fun x => mul_r (by decide) (by decide) _
    have g3 : mulOk ((b * 48271 + 12345) % 2147483647) ((b * 48271 + 12345) % 2147483647) = true := mul_l (by omega) (by omega) _
    have g4 : divOk 64 = true := by decide
    refine ⟨(b * 48271 + 12345) % 2147483647 * ((b * 48271 + 12345) % 2147483647) % 2147483629 / 64 % c, a, (b * 48271 + 12345) % 2147483647, Int.emod_nonneg _ (by omega), Int.emod_lt_of_pos _ hc, ⟨ha, m1, m2⟩, ?_⟩
    rw [s__law_take, sem2_app _ _ _ rfl rfl]
    simp -implicitDefEqProofs [c__law_take, h0, hc, g1, g2, g3, g4, SX.ixN, L2.ixN]
theorem text_b1 (t k : Option Vl) : ∀ (ks : List Str) (vs : List Int) (acc : List D), (∀ k ∈ ks, PyData.strOk k = true ∧ k.length = 1) → (∀ v ∈ vs, SX.strOk v = true) → acc.length + ks.length < 16777216 → ∀ o3 o4, ∃ o3' o4', for2 (as2 K27 (.tup (.cons (.nam 3) (.cons (.nam 4) .nil)))) (ess2 K27 c__law_text_b1) (((ks.map lawK).zip vs).map fun p => .tup [.str p.1, .int p.2]) [t, k, some (.ls acc), o3, o4] = .ok .nx [t, k, some (.ls (acc ++ (ks.zip vs).map fun q => .str (mk (itemL q.1 q.2)))), o3', o4']
  | [], vs, acc, _, _, _, o3, o4 => ⟨o3, o4, by simp [for2_nil]⟩
  | x :: ks, [], acc, _, _, _, o3, o4 => ⟨o3, o4, by simp [for2_nil]⟩
  | x :: ks, v :: vs, acc, hk, hv, hl, o3, o4 => by
    have hl' : acc.length + (ks.length + 1) < 16777216 := hl
    obtain ⟨kx, lx⟩ := hk x List.mem_cons_self
    have vx := hv v List.mem_cons_self
    obtain ⟨a, b, r⟩ := text_b1 t k ks vs (acc ++ [.str (mk (itemL x v))]) (fun y hy => hk y (List.mem_cons_of_mem _ hy)) (fun y hy => hv y (List.mem_cons_of_mem _ hy)) (by simp; omega) (some (.fr (.str (lawK x)))) (some (.fr (.int v)))
    refine ⟨a, b, ?_⟩
    rw [List.map_cons, List.zip_cons_cons, List.map_cons, for2_step (e1 := [t, k, some (.ls acc), some (.fr (.str (lawK x))), some (.fr (.int v))]) (e2 := [t, k, some (.ls (acc ++ [.str (mk (itemL x v))])), some (.fr (.str (lawK x))), some (.fr (.int v))]) (by simp) ?_, r]
    · simp
    · have h1 := log_len vx
      have h2 : 1 + (intL v).length ≤ 16777216 := by omega
      have ha : acc.length < 16777216 := by omega
      have hok := lawK_ok kx
      have hlen := lawK_len lx
      have hi := lawK_item x v
      by_cases q : lawK x = "i"
      · rw [if_pos q] at hi
        simp -implicitDefEqProofs [c__law_text_b1, q, vx, ha, hi]
      · rw [if_neg q] at hi
        have e : lawK x ++ mk (intL v) = mk (itemL x v) := by rw [← hi, ← mk_app, mk_tl]
        simp -implicitDefEqProofs [c__law_text_b1, q, vx, ha, hok, hlen, h2, e]
/-- the law's own text of a line is the program's -/
theorem law_text_r (p : Ins) (f : Str) (h : forms.lookup p.1 = some f) (hv : ∀ v ∈ p.2, SX.strOk v = true) : s__law_text [.fr (insP p)] = .ok (.fr (.str (mk (lineL p)))) [none] := by
  obtain ⟨hw, hf, hl, h0⟩ := forms_ok h
  obtain ⟨g, hg, hkg, hgo, hgl⟩ := lawT_of h
  have hval := lawV_of hg
  have kl := kinds_len f
  obtain ⟨a, b, r⟩ := text_b1 (some (.fr (insP p))) (some (.di lawV)) (kinds f) p.2 [.str p.1] (fun k hk => ⟨strOk_one hf hk, kind_one hk⟩) hv (by simp; omega) none none
  have hz : (((g.cps.toList.map fun c => D.str ⟨#[c]⟩).zip (p.2.map D.int)).map fun p => D.tup [p.1, p.2]) = (((kinds f).map lawK).zip p.2).map fun p => D.tup [.str p.1, .int p.2] := by
    rw [zip_its, hkg]
  have e : lineL p = insL f p := by unfold lineL formOf; rw [h]; rfl
  have gg := (lineL_len h hv).2
  have q2 := join_ev (C := K27) (s := [32]) (X := .frz 2) (ys := tl p.1 :: ((kinds f).zip p.2).map fun q => itemL q.1 q.2) (e := [some (.fr (insP p)), some (.di lawV), some (.ls ([.str p.1] ++ ((kinds f).zip p.2).map fun q => .str (mk (itemL q.1 q.2)))), a, b]) (e' := [some (.fr (insP p)), some (.di lawV), none, a, b]) (by
    have hm : mk (tl p.1) = p.1 := mk_tl _
    simp [hm, Function.comp_def]) (by simpa using Nat.le_trans gg (by decide))
  rw [← lit_space] at q2
  rw [s__law_text, sem2_app _ _ _ rfl rfl]
  simp only [insP, insD, List.singleton_append] at r q2
  have hm := lawV_mrg
  simp -implicitDefEqProofs [-x_join, c__law_text, insP, insD, hm, hval, hz, r, q2, e, insL]
/-- a line that a law may draw -/
def Gen (n : Nat) (p : Ins) : Prop := GoodP n p ∧ RdI p ∧ LineOk p
theorem gen_of {n : Nat} {w f : Str} {vs : List Int} (h : forms.lookup w = some f) (hl : vs.length = f.length) (hf : ((kinds f).zip vs).all (fun p => fitK p.1 p.2) = true) (hw : ∀ z, vs.getLast? = some z → jmp w = true → z ≤ n) (hs : ∀ v ∈ vs, v.natAbs < 10 ^ 200) : Gen n (w, vs) := by
  refine ⟨⟨f, h, hl, hf, hw⟩, ⟨⟨f, h, hl, hf⟩, fun v hv => TL.numL_len (by decide) (hs v hv)⟩, ⟨f, h⟩, fun v hv => ?_⟩
  have h1 := hs v hv
  unfold SX.strOk
  refine decide_eq_true ?_
  rcases Nat.eq_zero_or_pos v.natAbs with z | z
  · rw [z]; decide
  · rw [Nat.log2_lt (by omega)]
    exact Nat.lt_trans h1 (by decide +kernel)
theorem big_of {v : Int} (h : v.natAbs < 1000000) : v.natAbs < 10 ^ 200 := Nat.lt_trans h (by decide +kernel)
theorem lk_set : forms.lookup (Str.ofString "set") = some (Str.ofString "ri") := by decide +kernel
theorem lk_add : forms.lookup (Str.ofString "add") = some (Str.ofString "rrr") := by decide +kernel
theorem lk_sub : forms.lookup (Str.ofString "sub") = some (Str.ofString "rrr") := by decide +kernel
theorem lk_move : forms.lookup (Str.ofString "move") = some (Str.ofString "rrp") := by decide +kernel
theorem lk_pick : forms.lookup (Str.ofString "pick") = some (Str.ofString "rfrr") := by decide +kernel
theorem lk_less : forms.lookup (Str.ofString "less") = some (Str.ofString "frr") := by decide +kernel
theorem lk_same : forms.lookup (Str.ofString "same") = some (Str.ofString "frr") := by decide +kernel
theorem lk_jump : forms.lookup (Str.ofString "jump") = some (Str.ofString "ft") := by decide +kernel
theorem lk_goto : forms.lookup (Str.ofString "goto") = some (Str.ofString "t") := by decide +kernel
theorem ks_ri : kinds "ri" = [("r" : Str), ("i" : Str)] := by decide +kernel
theorem ks_rrr : kinds "rrr" = [("r" : Str), ("r" : Str), ("r" : Str)] := by decide +kernel
theorem ks_rrp : kinds "rrp" = [("r" : Str), ("r" : Str), ("p" : Str)] := by decide +kernel
theorem ks_rfrr : kinds "rfrr" = [("r" : Str), ("f" : Str), ("r" : Str), ("r" : Str)] := by decide +kernel
theorem ks_frr : kinds "frr" = [("f" : Str), ("r" : Str), ("r" : Str)] := by decide +kernel
theorem ln_ri : (Str.ofString "ri").length = 2 := by decide +kernel
theorem ln_rrr : (Str.ofString "rrr").length = 3 := by decide +kernel
theorem ln_rrp : (Str.ofString "rrp").length = 3 := by decide +kernel
theorem ln_rfrr : (Str.ofString "rfrr").length = 4 := by decide +kernel
theorem ln_frr : (Str.ofString "frr").length = 3 := by decide +kernel
theorem ln_ft : (Str.ofString "ft").length = 2 := by decide +kernel
theorem ln_t : (Str.ofString "t").length = 1 := by decide +kernel
theorem gen_set {n : Nat} {a v : Int} (h : 0 ≤ a ∧ a ≤ 7) (hv : v.natAbs < 10 ^ 200) : Gen n ("set", [a, v]) :=
  gen_of lk_set (by rw [ln_ri]; rfl) (by rw [ks_ri]; simp [fitK, h]) (by simp [jmp]) (by
    intro x hx
    simp at hx
    rcases hx with rfl | rfl
    · exact big_of (by omega)
    · exact hv)
theorem gen_3 {n : Nat} {w : Str} {a b c : Int} (hw : w = "add" ∨ w = "sub") (h : 0 ≤ a ∧ a ≤ 7) (hb : 0 ≤ b ∧ b ≤ 7) (hc : 0 ≤ c ∧ c ≤ 7) : Gen n (w, [a, b, c]) := by
  rcases hw with rfl | rfl
  · exact gen_of lk_add (by rw [ln_rrr]; rfl) (by rw [ks_rrr]; simp [fitK, h, hb, hc]) (by simp [jmp]) (by simp; exact ⟨big_of (by omega), big_of (by omega), big_of (by omega)⟩)
  · exact gen_of lk_sub (by rw [ln_rrr]; rfl) (by rw [ks_rrr]; simp [fitK, h, hb, hc]) (by simp [jmp]) (by simp; exact ⟨big_of (by omega), big_of (by omega), big_of (by omega)⟩)
theorem gen_c {n : Nat} {w : Str} {a b c : Int} (hw : w = "less" ∨ w = "same") (h : 0 ≤ a ∧ a ≤ 3) (hb : 0 ≤ b ∧ b ≤ 7) (hc : 0 ≤ c ∧ c ≤ 7) : Gen n (w, [a, b, c]) := by
  rcases hw with rfl | rfl
  · exact gen_of lk_less (by rw [ln_frr]; rfl) (by rw [ks_frr]; simp [fitK, h, hb, hc]) (by simp [jmp]) (by simp; exact ⟨big_of (by omega), big_of (by omega), big_of (by omega)⟩)
  · exact gen_of lk_same (by rw [ln_frr]; rfl) (by rw [ks_frr]; simp [fitK, h, hb, hc]) (by simp [jmp]) (by simp; exact ⟨big_of (by omega), big_of (by omega), big_of (by omega)⟩)
theorem gen_move {n : Nat} {a b c : Int} (h : 0 ≤ a ∧ a ≤ 7) (hb : 0 ≤ b ∧ b ≤ 7) (hc : -40 ≤ c ∧ c ≤ 40) : Gen n ("move", [a, b, c]) :=
  gen_of lk_move (by rw [ln_rrp]; rfl) (by rw [ks_rrp]; simp [fitK, h, hb, hc]) (by simp [jmp]) (by simp; exact ⟨big_of (by omega), big_of (by omega), big_of (by omega)⟩)
theorem gen_pick {n : Nat} {a f b c : Int} (h : 0 ≤ a ∧ a ≤ 7) (hf : 0 ≤ f ∧ f ≤ 3) (hb : 0 ≤ b ∧ b ≤ 7) (hc : 0 ≤ c ∧ c ≤ 7) : Gen n ("pick", [a, f, b, c]) :=
  gen_of lk_pick (by rw [ln_rfrr]; rfl) (by rw [ks_rfrr]; simp [fitK, h, hb, hc, hf]) (by simp [jmp]) (by simp; exact ⟨big_of (by omega), big_of (by omega), big_of (by omega), big_of (by omega)⟩)
theorem gen_jump {n : Nat} {f t : Int} (hf : 0 ≤ f ∧ f ≤ 3) (ht : 0 ≤ t ∧ t ≤ n) (h2 : t ≤ 200) : Gen n ("jump", [f, t]) :=
  gen_of lk_jump (by rw [ln_ft]; rfl) (by rw [kinds_ft]; simp [fitK, hf, ht, h2]) (by simp; intro _; exact ht.2) (by simp; exact ⟨big_of (by omega), big_of (by omega)⟩)
theorem gen_goto {n : Nat} {t : Int} (ht : 0 ≤ t ∧ t ≤ n) (h2 : t ≤ 200) : Gen n ("goto", [t]) :=
  gen_of lk_goto (by rw [ln_t]; rfl) (by rw [kinds_t]; simp [fitK, ht, h2]) (by simp; intro _; exact ht.2) (by simp; exact big_of (by omega))
end G71
end
section
set_option Elab.async false
set_option linter.all false
set_option maxRecDepth 100000
set_option maxHeartbeats 8000000
namespace G71
open PySem PySem.Spec PyProof.Rows L2 SX TX
theorem code_turn {a b : Int} (h : PoolOk a b) (m : Nat) (hm : m ≤ 200) (acc : List D) (ha : acc.length < 16777216) (o3 o4 o5 o6 o7 o8 o9 : Option Vl) : ∃ p a' b' p4 p5 p6 p7 p8 p9, Gen m p ∧ PoolOk a' b' ∧ ess2 K28 c__law_any_code_b1 [some (.ls [.int a, .int b]), some (.fr (.int m)), some (.ls acc), o3, o4, o5, o6, o7, o8, o9] = .ok .nx [some (.ls [.int a', .int b']), some (.fr (.int m)), some (.ls (acc ++ [insP p])), o3, p4, p5, p6, p7, p8, p9] := by
  obtain ⟨w, a1, b1, w0, w1, h1, e1⟩ := take_ex h (c := 6) (by decide)
  have hw : w = 0 ∨ w = 1 ∨ w = 2 ∨ w = 3 ∨ w = 4 ∨ w = 5 := by omega
  have d4 : divOk 4 = true := by decide
  have d8 : divOk 8 = true := by decide
  have d5 : divOk 5 = true := by decide
  have d81 : divOk 81 = true := by decide
  have dm : divOk ((m : Int) + 1) = true := div_ok (by omega) (by omega)
  rcases hw with rfl | rfl | rfl | rfl | rfl | rfl
  · obtain ⟨f, a2, b2, f0, f1, h2, e2⟩ := take_ex h1 d4
    obtain ⟨t, a3, b3, t0, t1, h3, e3⟩ := take_ex h2 dm
    refine ⟨("jump", [f, t]), a3, b3, some (.fr (.int 0)), o5, o6, o7, o8, o9, gen_jump ⟨f0, by omega⟩ ⟨t0, by omega⟩ (by omega), h3, ?_⟩
    simp -implicitDefEqProofs [c__law_any_code_b1, e1, e2, e3, insP, insD, ha]
  · obtain ⟨t, a3, b3, t0, t1, h3, e3⟩ := take_ex h1 dm
    refine ⟨("goto", [t]), a3, b3, some (.fr (.int 1)), o5, o6, o7, o8, o9, gen_goto ⟨t0, by omega⟩ (by omega), h3, ?_⟩
    simp -implicitDefEqProofs [c__law_any_code_b1, e1, e3, insP, insD, ha]
  · obtain ⟨r, a2, b2, r0, r1, h2, e2⟩ := take_ex h1 d8
    obtain ⟨t, a3, b3, t0, t1, h3, e3⟩ := take_ex h2 d5
    have ht : t = 0 ∨ t = 1 ∨ t = 2 ∨ t = 3 ∨ t = 4 := by omega
    have g1 : powOk 10 40 = true := by decide
    have g2 : powOk 10 30 = true := by decide
    have fin : ∀ v : Int, v.natAbs < 10 ^ 200 → atD [.int 0, .int (-1), .int (10 ^ 40), .int (-(10 ^ 30)), .int 7] t = some (.int v) → ∃ p a' b' p4 p5 p6 p7 p8 p9, Gen m p ∧ PoolOk a' b' ∧ ess2 K28 c__law_any_code_b1 [some (.ls [.int a, .int b]), some (.fr (.int m)), some (.ls acc), o3, o4, o5, o6, o7, o8, o9] = .ok .nx [some (.ls [.int a', .int b']), some (.fr (.int m)), some (.ls (acc ++ [insP p])), o3, p4, p5, p6, p7, p8, p9] := fun v hv hat => by
      refine ⟨("set", [r, v]), a3, b3, some (.fr (.int 2)), some (.fr (.lst [.int 0, .int (-1), .int (10 ^ 40), .int (-(10 ^ 30)), .int 7])), o6, o7, o8, o9, gen_set ⟨r0, by omega⟩ hv, h3, ?_⟩
      simp at hat
      simp -implicitDefEqProofs [c__law_any_code_b1, e1, e2, e3, insP, insD, ha, g1, g2, hat]
    rcases ht with rfl | rfl | rfl | rfl | rfl
    · exact fin 0 (by decide +kernel) (by simp)
    · exact fin (-1) (by decide +kernel) (by simp)
    · exact fin (10 ^ 40) (by decide +kernel) (by simp)
    · exact fin (-(10 ^ 30)) (by decide +kernel) (by simp)
    · exact fin 7 (by decide +kernel) (by simp)
  · obtain ⟨x, a2, b2, x0, x1, h2, e2⟩ := take_ex h1 d8
    obtain ⟨y, a3, b3, y0, y1, h3, e3⟩ := take_ex h2 d8
    obtain ⟨z, a4, b4, z0, z1, h4, e4⟩ := take_ex h3 d81
    refine ⟨("move", [x, y, z - 40]), a4, b4, some (.fr (.int 3)), o5, some (.fr (.int x)), some (.fr (.int y)), o8, o9, gen_move ⟨x0, by omega⟩ ⟨y0, by omega⟩ ⟨by omega, by omega⟩, h4, ?_⟩
    simp -implicitDefEqProofs [c__law_any_code_b1, e1, e2, e3, e4, insP, insD, ha]
  · obtain ⟨x, a2, b2, x0, x1, h2, e2⟩ := take_ex h1 d8
    obtain ⟨f, a3, b3, f0, f1, h3, e3⟩ := take_ex h2 d4
    obtain ⟨y, a4, b4, y0, y1, h4, e4⟩ := take_ex h3 d8
    obtain ⟨z, a5, b5, z0, z1, h5, e5⟩ := take_ex h4 d8
    refine ⟨("pick", [x, f, y, z]), a5, b5, some (.fr (.int 4)), o5, some (.fr (.int x)), o7, some (.fr (.int f)), o9, gen_pick ⟨x0, by omega⟩ ⟨f0, by omega⟩ ⟨y0, by omega⟩ ⟨z0, by omega⟩, h5, ?_⟩
    simp -implicitDefEqProofs [c__law_any_code_b1, e1, e2, e3, e4, e5, insP, insD, ha]
  · obtain ⟨k, a2, b2, k0, k1, h2, e2⟩ := take_ex h1 d4
    obtain ⟨x, a3, b3, x0, x1, h3, e3⟩ := take_ex h2 d4
    obtain ⟨y, a4, b4, y0, y1, h4, e4⟩ := take_ex h3 d8
    obtain ⟨z, a5, b5, z0, z1, h5, e5⟩ := take_ex h4 d8
    have hk : k = 0 ∨ k = 1 ∨ k = 2 ∨ k = 3 := by omega
    rcases hk with rfl | rfl | rfl | rfl
    · refine ⟨("add", [x, y, z]), a5, b5, some (.fr (.int 5)), o5, some (.fr (.int x)), o7, o8, some (.fr (.str "add")), gen_3 (.inl rfl) ⟨x0, by omega⟩ ⟨y0, by omega⟩ ⟨z0, by omega⟩, h5, ?_⟩
      simp -implicitDefEqProofs [c__law_any_code_b1, e1, e2, e3, e4, e5, insP, insD, ha]
    · refine ⟨("sub", [x, y, z]), a5, b5, some (.fr (.int 5)), o5, some (.fr (.int x)), o7, o8, some (.fr (.str "sub")), gen_3 (.inr rfl) ⟨x0, by omega⟩ ⟨y0, by omega⟩ ⟨z0, by omega⟩, h5, ?_⟩
      simp -implicitDefEqProofs [c__law_any_code_b1, e1, e2, e3, e4, e5, insP, insD, ha]
    · refine ⟨("less", [x, y, z]), a5, b5, some (.fr (.int 5)), o5, some (.fr (.int x)), o7, o8, some (.fr (.str "less")), gen_c (.inl rfl) ⟨x0, by omega⟩ ⟨y0, by omega⟩ ⟨z0, by omega⟩, h5, ?_⟩
      simp -implicitDefEqProofs [c__law_any_code_b1, e1, e2, e3, e4, e5, insP, insD, ha]
    · refine ⟨("same", [x, y, z]), a5, b5, some (.fr (.int 5)), o5, some (.fr (.int x)), o7, o8, some (.fr (.str "same")), gen_c (.inr rfl) ⟨x0, by omega⟩ ⟨y0, by omega⟩ ⟨z0, by omega⟩, h5, ?_⟩
      simp -implicitDefEqProofs [c__law_any_code_b1, e1, e2, e3, e4, e5, insP, insD, ha]
theorem code_loop (m : Nat) (hm : m ≤ 200) : ∀ (is : List Nat) (acc : List Ins) (a b : Int), PoolOk a b → acc.length + is.length < 16777216 → ∀ o3 o4 o5 o6 o7 o8 o9, ∃ (l : List Ins) (a' b' : Int) (p3 p4 p5 p6 p7 p8 p9 : Option Vl), l.length = is.length ∧ (∀ p ∈ l, Gen m p) ∧ PoolOk a' b' ∧ for2 (as2 K28 (.nam 3)) (ess2 K28 c__law_any_code_b1) (is.map fun i => .int (i : Nat)) [some (.ls [.int a, .int b]), some (.fr (.int m)), some (.ls (acc.map insP)), o3, o4, o5, o6, o7, o8, o9] = .ok .nx [some (.ls [.int a', .int b']), some (.fr (.int m)), some (.ls ((acc ++ l).map insP)), p3, p4, p5, p6, p7, p8, p9]
  | [], acc, a, b, h, _, o3, o4, o5, o6, o7, o8, o9 => ⟨[], a, b, o3, o4, o5, o6, o7, o8, o9, rfl, by simp, h, by simp [for2_nil]⟩
  | i :: is, acc, a, b, h, hl, o3, o4, o5, o6, o7, o8, o9 => by
    have hl' : acc.length + (is.length + 1) < 16777216 := hl
    obtain ⟨p, a1, b1, q4, q5, q6, q7, q8, q9, g, h1, e1⟩ := code_turn h m hm (acc.map insP) (by simp; omega) (some (.fr (.int (i : Nat)))) o4 o5 o6 o7 o8 o9
    obtain ⟨l, a2, b2, r3, r4, r5, r6, r7, r8, r9, l1, l2, l3, l4⟩ := code_loop m hm is (acc ++ [p]) a1 b1 h1 (by simp; omega) (some (.fr (.int (i : Nat)))) q4 q5 q6 q7 q8 q9
    refine ⟨p :: l, a2, b2, r3, r4, r5, r6, r7, r8, r9, by simp [l1], fun q hq => ?_, l3, ?_⟩
    · rcases List.mem_cons.mp hq with z | z
      · rw [z]; exact g
      · exact l2 q z
    · rw [List.map_cons, for2_step (e1 := [some (.ls [.int a, .int b]), some (.fr (.int m)), some (.ls (acc.map insP)), some (.fr (.int (i : Nat))), o4, o5, o6, o7, o8, o9]) rfl e1]
      have e : (acc.map insP ++ [insP p]) = (acc ++ [p]).map insP := by simp
      rw [e, l4]
      simp
theorem any_code_r (m : Nat) (hm : m ≤ 200) {a b : Int} (h : PoolOk a b) : ∃ (l : List Ins) (a' b' : Int), l.length = m ∧ (∀ p ∈ l, Gen m p) ∧ PoolOk a' b' ∧ s__law_any_code [.ls [.int a, .int b], .fr (.int m)] = .ok (.fr (.lst (l.map insP))) [some (.ls [.int a', .int b']), none] := by
  obtain ⟨l, a2, b2, r3, r4, r5, r6, r7, r8, r9, l1, l2, l3, l4⟩ := code_loop m hm (List.range m) [] a b h (by simp; omega) none none none none none none none
  refine ⟨l, a2, b2, by simpa using l1, l2, l3, ?_⟩
  have g1 : -4611686018427387904 ≤ (m : Int) := by omega
  have g2 : (m : Int) < 16777216 := by omega
  rw [s__law_any_code, sem2_app _ _ _ rfl rfl]
  simp at l4
  simp -implicitDefEqProofs [c__law_any_code, g1, g2, l4]
end G71
end
section
set_option Elab.async false
set_option linter.all false
set_option maxRecDepth 100000
set_option maxHeartbeats 8000000
namespace G71
open PySem PySem.Spec PyProof.Rows L2 SX TX
theorem prg_eq_r (xs ys : List Ins) (hx : ∀ p ∈ xs, PyData.strOk p.1 = true) (hy : ∀ p ∈ ys, PyData.strOk p.1 = true) : s_Program_eq [.fr (prgD xs), .fr (prgD ys)] = .ok (.fr (.bl (decide (xs = ys)))) [none, none] := by
  have h := eqP_prog hx hy
  rw [s_Program_eq, sem2_app _ _ _ rfl rfl]
  simp -implicitDefEqProofs [c_Program_eq, prgD, cmpD_eqs, h]
theorem cmp_prg_eq (K : Cx2) (hK : K.mt 0 aEq 1 = some s_Program_eq) (xs ys : List Ins) (hx : ∀ p ∈ xs, PyData.strOk p.1 = true) (hy : ∀ p ∈ ys, PyData.strOk p.1 = true) (e : VE) : cmpX2 K .eq (prgD xs) (prgD ys) e = .ok (decide (xs = ys)) e := by
  have h := prg_eq_r xs ys hx hy
  simp only [prgD] at h ⊢
  simp -implicitDefEqProofs [hK, h, D.isObj]
theorem cmp_prg_ne (K : Cx2) (hK : K.mt 0 aEq 1 = some s_Program_eq) (xs ys : List Ins) (hx : ∀ p ∈ xs, PyData.strOk p.1 = true) (hy : ∀ p ∈ ys, PyData.strOk p.1 = true) (e : VE) : cmpX2 K .ne (prgD xs) (prgD ys) e = .ok (!decide (xs = ys)) e := by
  have h := prg_eq_r xs ys hx hy
  simp only [prgD] at h ⊢
  simp -implicitDefEqProofs [hK, h, D.isObj]
@[simp] theorem check_between_ok (v a b : Int) (h : a ≤ v ∧ v ≤ b) : s_check_between [.fr (.int v), .fr (.int a), .fr (.int b)] = .ok (.fr .non) [none, none, none] := by
  rw [s_check_between, sem2_app _ _ _ rfl rfl]
  simp [c_check_between, h]
theorem getitem_r (xs : List Ins) (i : Nat) (p : Ins) (h : xs[i]? = some p) : s_Program_getitem [.fr (prgD xs), .fr (.int i)] = .ok (.fr (insP p)) [none, none] := by
  have hl : i < xs.length := by
    rcases List.getElem?_eq_some_iff.mp h with ⟨q, _⟩; exact q
  have h2 : (i : Int) ≤ (xs.length : Int) - 1 := by omega
  have h3 : (xs.map insP)[i]? = some (insP p) := by rw [List.getElem?_map, h]; rfl
  rw [s_Program_getitem, sem2_app _ _ _ rfl rfl]
  simp -implicitDefEqProofs [c_Program_getitem, prgD, h2, h3]
theorem Gen.rp {n : Nat} {p : Ins} (g : Gen n p) : RpI p := by
  obtain ⟨_, r, ⟨_, s⟩⟩ := g
  obtain ⟨f, hf, hl, _⟩ := r.form
  exact ⟨⟨f, hf⟩, by rw [hl]; exact (forms_len hf).1, s⟩
theorem Gen.ok {n : Nat} {p : Ins} (g : Gen n p) : PyData.strOk p.1 = true := g.1.ok
/-- all that is known of a program that was drawn -/
structure Drawn (l : List Ins) : Prop where
  gen : ∀ p ∈ l, Gen l.length p
  len : l.length ≤ 200
theorem Drawn.fmt {l : List Ins} (d : Drawn l) : s_format_program [.fr (prgD l)] = .ok (.fr (.str (TX.mk (textL l)))) [none] := format_prg_r l (fun p hp => (d.gen p hp).2.2) d.len
theorem Drawn.parse {l : List Ins} (d : Drawn l) : s_parse_program [.fr (.str (TX.mk (textL l)))] = .ok (.fr (prgD l)) [none] := parse_prg_back l (fun p hp => (d.gen p hp).1) (fun p hp => (d.gen p hp).2.1) d.len
theorem Drawn.asm {l : List Ins} (d : Drawn l) : s_assemble [.fr (.str (TX.mk (textL l)))] = .ok (.fr (prgD l)) [none] := assemble_back l (fun p hp => (d.gen p hp).1) (fun p hp => (d.gen p hp).2.1) d.len
theorem Drawn.okc {l : List Ins} (d : Drawn l) : TX.okc (textL l) = true := (textL_len (fun p hp => (d.gen p hp).2.1) d.len).2
theorem Drawn.tlen {l : List Ins} (d : Drawn l) : (textL l).length ≤ 16777214 := (textL_len (fun p hp => (d.gen p hp).2.1) d.len).1
theorem Drawn.mak (K : Cx2) (hK : K.ini 0 1 = some s_Program_init) {l : List Ins} (d : Drawn l) (e : VE) : (makeS (K.ini 0 1) 0 [.val (.fr (.lst (l.map insP)))] e).bnd frzM = .ok (.fr (prgD l)) e := mak_prg K hK l (fun p hp => (d.gen p hp).1) d.len e
theorem Drawn.init {l : List Ins} (d : Drawn l) : s_Program_init [.ob 0 [], .fr (.lst (l.map insP))] = .ok (.fr .non) [some (.ob 0 [.fr (.tup (l.map insP)), .fr (.bl (!l.any fun p => jmp p.1))]), none] := prg_init l (fun p hp => (d.gen p hp).1) d.len _ (.inl rfl)
theorem Drawn.eq (K : Cx2) (hK : K.mt 0 aEq 1 = some s_Program_eq) {l : List Ins} (d : Drawn l) (e : VE) : cmpX2 K .eq (prgD l) (prgD l) e = .ok true e := by
  rw [cmp_prg_eq K hK l l (fun p hp => (d.gen p hp).ok) (fun p hp => (d.gen p hp).ok)]
  simp
theorem Drawn.ne (K : Cx2) (hK : K.mt 0 aEq 1 = some s_Program_eq) {l : List Ins} (d : Drawn l) (e : VE) : cmpX2 K .ne (prgD l) (prgD l) e = .ok false e := by
  rw [cmp_prg_ne K hK l l (fun p hp => (d.gen p hp).ok) (fun p hp => (d.gen p hp).ok)]
  simp
/-- the text by the law's own function, of a list of lines -/
theorem texts_ev (K : Cx2) (i v f : Nat) (hK : K.fn f 1 = some s__law_text) {l : List Ins} (d : Drawn l) (e : VE) (hv : e[i]? = some (some (.fr (.lst (l.map insP))))) (hw : (wipeL [v] e)[i]? = some (some (.fr (.lst (l.map insP))))) (hn : e[v]? = some none ∨ ∃ x, e[v]? = some (some (.fr x))) : ev K (.com [v] (.nam v) (.seq (.var i)) .no (.cal f (.one (.var v) .nil))) e = .ok (.fr (.lst ((l.map lineL).map fun y => .str (mk y)))) e := by
  have e1 : ((l.map lineL).map fun y => D.str (mk y)) = l.map fun p => .str (mk (lineL p)) := by rw [List.map_map]; rfl
  rw [e1]
  have hlen : v < e.length := by
    rcases hn with z | ⟨x, z⟩ <;> (rcases List.getElem?_eq_some_iff.mp z with ⟨q, _⟩; exact q)
  refine com_map (xs := l) (dd := insP) (by simp [tgsT]) (by rcases hn with z | ⟨x, z⟩ <;> simp [z]) ?_ (by have := d.len; omega) fun p hp => ?_
  · simp [hv]
  · obtain ⟨f, hf, _⟩ := (d.gen p hp).2.1.form
    have t := law_text_r p f hf (d.gen p hp).2.2.2
    refine ⟨(wipeL [v] e).set v (some (.fr (insP p))), ?_, ?_⟩
    · simp [hK, hlen, t]
    · simp
theorem text_join (K : Cx2) (X : CE) {l : List Ins} (d : Drawn l) (e e' : VE) (h : ev K X e = .ok (.fr (.lst ((l.map lineL).map fun y => .str (mk y)))) e') : ev K (.bmt .join (.con (.str "\n")) (.one X .nil)) e = .ok (.fr (.str (mk (textL l)))) e' := by
  rw [lit_nl]
  have m := sum_le (k := 2000) (l := (l.map lineL).map (·.length)) fun x hx => by
    obtain ⟨y, hy, rfl⟩ := List.mem_map.mp hx
    obtain ⟨p, hp, rfl⟩ := List.mem_map.mp hy
    exact line_len (d.gen p hp).2.1
  rw [List.length_map, List.length_map] at m
  refine join_ev h ?_
  rw [List.length_map, List.length_singleton]
  have := d.len
  have : l.length * 2000 ≤ 200 * 2000 := Nat.mul_le_mul_right _ d.len
  omega
/-! the long program -/
def LB : List Ins := [("add", [7, 6, 5]), ("set", [2, 10 ^ 60])]
def GT : Int := 10 ^ 50 * 10 ^ 50 * 10 ^ 50 * 10 ^ 50 - 1
def LH : List Ins := [("set", [0, GT]), ("set", [1, -GT]), ("jump", [3, 200]), ("goto", [0]), ("goto", [99]), ("goto", [100])]
def LT : List Ins := (List.replicate 97 LB).flatten
def LR : List Ins := LH ++ LT
theorem LR_len : LR.length = 200 := by decide +kernel
theorem LR_drawn : Drawn LR := by
  refine ⟨fun p hp => ?_, by rw [LR_len]; exact Nat.le_refl _⟩
  rw [LR_len]
  unfold LR at hp
  rcases List.mem_append.mp hp with h | h
  · unfold LH at h
    simp only [List.mem_cons, List.mem_nil_iff, or_false] at h
    rcases h with rfl | rfl | rfl | rfl | rfl | rfl
    · exact gen_set (by decide) (by decide +kernel)
    · exact gen_set (by decide) (by decide +kernel)
    · exact gen_jump (by decide) (by decide) (by decide)
    · exact gen_goto (by decide) (by decide)
    · exact gen_goto (by decide) (by decide)
    · exact gen_goto (by decide) (by decide)
  · unfold LT at h
    obtain ⟨b, hb, hm⟩ := List.mem_flatten.mp h
    rw [(List.mem_replicate.mp hb).2] at hm
    unfold LB at hm
    simp only [List.mem_cons, List.mem_nil_iff, or_false] at hm
    rcases hm with rfl | rfl
    · exact gen_3 (.inl rfl) (by decide) (by decide) (by decide)
    · exact gen_set (by decide) (by decide +kernel)
end G71
end
section
set_option Elab.async false
set_option linter.all false
set_option maxRecDepth 100000
set_option maxHeartbeats 8000000
namespace G71
open PySem PySem.Spec PyProof.Rows L2 SX TX
theorem repl_flat (n : Nat) : (List.replicate n (LB.map insP)).flatten = ((List.replicate n LB).flatten).map insP := by
  rw [List.map_flatten, List.map_replicate]
set_option simprocs false in
theorem lr1 : es2 K29 c__law_long_right_s1 [none, none, none, none] = .ok .nx [some (.fr (.int GT)), none, none, none] := by
  have g1 : powOk 10 50 = true := by decide
  have g2 : mulOk (10 ^ (50 : Int).toNat) (10 ^ (50 : Int).toNat) = true := by decide +kernel
  have g3 : mulOk (10 ^ (50 : Int).toNat * 10 ^ (50 : Int).toNat) (10 ^ (50 : Int).toNat) = true := by decide +kernel
  have g4 : mulOk (10 ^ (50 : Int).toNat * 10 ^ (50 : Int).toNat * 10 ^ (50 : Int).toNat) (10 ^ (50 : Int).toNat) = true := by decide +kernel
  simp -implicitDefEqProofs only [c__law_long_right_s1, c_asg, parA_nam, parQ_none, x_bin, x_con, rb_ok, asFr_fr, ret2_app, bnd2_app, addX2_int, po_bin_pow, g1, if_true, lift2_some, po_bin_mul, po_bin_sub, g2, g3, g4, noEx2_app, s_nam, rn_ok, List.set]
  rfl
theorem lr2 : es2 K29 c__law_long_right_s2 [some (.fr (.int GT)), none, none, none] = .ok .nx [some (.fr (.int GT)), some (.fr (.lst (LH.map insP))), none, none] := by
  simp -implicitDefEqProofs [c__law_long_right_s2, LH, insP, insD]
theorem lr3 : es2 K29 c__law_long_right_s3 [some (.fr (.int GT)), some (.fr (.lst (LH.map insP))), none, none] = .ok .nx [some (.fr (.int GT)), some (.fr (.lst (LR.map insP))), none, none] := by
  have c2 : ev K29 (.lst (.one (.tup (.one (.con (.str "add")) (.one (.con (.int 7)) (.one (.con (.int 6)) (.one (.con (.int 5)) .nil))))) (.one (.tup (.one (.con (.str "set")) (.one (.con (.int 2)) (.one (.bin .pow (.con (.int 10)) (.con (.int 60))) .nil)))) .nil))) [some (.fr (.int GT)), some (.fr (.lst (LH.map insP))), none, none] = .ok (.fr (.lst (LB.map insP))) [some (.fr (.int GT)), some (.fr (.lst (LH.map insP))), none, none] := by
    have g1 : powOk 10 60 = true := by decide
    simp -implicitDefEqProofs [LB, insP, insD, g1]
  have c3 : pureO (binD .mul (.lst (LB.map insP)) (.int 97)) = some (.lst (LT.map insP)) := by
    rw [po_bin_rep, if_pos (by decide)]
    show some (D.lst (List.replicate 97 (LB.map insP)).flatten) = _
    rw [repl_flat]
    rfl
  have c4 : pureO (binD .add (.lst (LH.map insP)) (.lst (LT.map insP))) = some (.lst (LR.map insP)) := by
    rw [po_bin_lst, List.length_map, List.length_map, if_pos (by decide +kernel)]
    unfold LR
    rw [List.map_append]
  simp -implicitDefEqProofs [-x_lst, -po_bin_rep, -po_bin_lst, c__law_long_right_s3, c2, c3, c4]
theorem lr4 (g : Option Vl) : es2 K29 c__law_long_right_s4 [g, some (.fr (.lst (LR.map insP))), none, none] = .ok .nx [g, some (.fr (.lst (LR.map insP))), some (.fr (.str (TX.mk (textL LR)))), none] := by
  have k : ev K29 c__law_long_right_k1 [g, some (.fr (.lst (LR.map insP))), none, none] = _ := texts_ev K29 1 3 21 rfl LR_drawn [g, some (.fr (.lst (LR.map insP))), none, none] rfl rfl (.inl rfl)
  have j := text_join K29 _ LR_drawn _ _ k
  simp -implicitDefEqProofs [-x_join, c__law_long_right_s4, j]
theorem lr5 (g : Option Vl) : es2 K29 c__law_long_right_s5 [g, some (.fr (.lst (LR.map insP))), some (.fr (.str (TX.mk (textL LR)))), none] = .ok .nx [g, some (.fr (.lst (LR.map insP))), some (.fr (.str (TX.mk (textL LR)))), none] := by
  have i := LR_drawn.init
  have f := LR_drawn.fmt
  have o := LR_drawn.okc
  have n := LR_len
  simp only [prgD] at f
  simp -implicitDefEqProofs [c__law_long_right_s5, n, i, f, o]
theorem lr6 (g : Option Vl) : es2 K29 c__law_long_right_s6 [g, some (.fr (.lst (LR.map insP))), some (.fr (.str (TX.mk (textL LR)))), none] = .ok (.ret (.fr (.bl true))) [g, some (.fr (.lst (LR.map insP))), some (.fr (.str (TX.mk (textL LR)))), none] := by
  have i := LR_drawn.init
  have p := LR_drawn.parse
  have a := LR_drawn.asm
  have q := fun e => LR_drawn.eq K29 rfl e
  simp only [prgD] at p a q
  simp -implicitDefEqProofs [-cmpX2_eqo, c__law_long_right_s6, i, p, a, q]
theorem long_right_r : s__law_long_right [] = .ok (.fr (.bl true)) [] := by
  rw [s__law_long_right, sem2_app _ _ _ rfl rfl]
  simp -implicitDefEqProofs [-c_asg, -c_ite, -c_ret, c__law_long_right, lr1, lr2, lr3, lr4, lr5, lr6]
end G71
end
section
set_option Elab.async false
set_option linter.all false
set_option maxRecDepth 100000
set_option maxHeartbeats 8000000
namespace G71
open PySem PySem.Spec PyProof.Rows L2 SX TX
theorem nil_drawn : Drawn [] := ⟨(fun p hp => by cases hp), by decide⟩
def KF : List Ins := [("set", [2, -5]), ("move", [1, 0, 2]), ("pick", [3, 0, 1, 2]), ("less", [1, 0, 2]), ("jump", [0, 7])]
def KN : List Ins := [("set", [2, -5]), ("move", [1, 0, 2]), ("pick", [3, 0, 1, 2]), ("less", [1, 0, 2]), ("jump", [0, 7]), ("goto", [1])]
def KM : List Ins := [("set", [2, -5]), ("move", [1, 0, 2]), ("pick", [3, 0, 1, 2]), ("less", [1, 0, 2]), ("jump", [0, 7]), ("goto", [1]), ("set", [0, 0])]
theorem KM_drawn : Drawn KM := by
  refine ⟨fun p hp => ?_, by decide⟩
  have hl : KM.length = 7 := rfl
  rw [hl]
  unfold KM at hp
  simp only [List.mem_cons, List.mem_nil_iff, or_false] at hp
  rcases hp with rfl | rfl | rfl | rfl | rfl | rfl | rfl
  · exact gen_set (by decide) (by decide +kernel)
  · exact gen_move (by decide) (by decide) (by decide)
  · exact gen_pick (by decide) (by decide) (by decide) (by decide)
  · exact gen_c (.inl rfl) (by decide) (by decide) (by decide)
  · exact gen_jump (by decide) (by decide) (by decide)
  · exact gen_goto (by decide) (by decide)
  · exact gen_set (by decide) (by decide +kernel)
theorem KM_text : Str.ofString "set r2 -5\nmove r1 r0 2\npick r3 f0 r1 r2\nless f1 r0 r2\njump f0 7\ngoto 1\nset r0 0" = TX.mk (textL KM) := by decide +kernel
theorem la1 (S : Option Vl) : es2 K30 c_law_s1 [S, none, none, none, none, none, none, none, none] = .ok .nx [S, none, none, none, none, none, none, none, none] := by
  have i := nil_drawn.init
  have f := nil_drawn.fmt
  have p := nil_drawn.parse
  have a := nil_drawn.asm
  have q := fun e => nil_drawn.ne K30 rfl e
  have t : textL [] = [] := rfl
  simp only [prgD, t, List.map_nil, List.any_nil, Bool.not_false] at i f p a q
  simp -implicitDefEqProofs [-cmpX2_neo, c_law_s1, lit_empty, i, f, p, a, q]
theorem la2 (S : Option Vl) : es2 K30 c_law_s2 [S, none, none, none, none, none, none, none, none] = .ok .nx [S, some (.fr (.lst (KF.map insP))), none, none, none, none, none, none, none] := by
  simp -implicitDefEqProofs [c_law_s2, KF, insP, insD]
theorem la3 (S : Option Vl) : es2 K30 c_law_s3 [S, some (.fr (.lst (KF.map insP))), none, none, none, none, none, none, none] = .ok .nx [S, some (.fr (.lst (KN.map insP))), none, none, none, none, none, none, none] := by
  simp -implicitDefEqProofs [c_law_s3, KF, insP, insD, KN]
theorem la4 (S N : Option Vl) : es2 K30 c_law_s4 [S, N, none, none, none, none, none, none, none] = .ok .nx [S, N, some (.fr (.str (TX.mk (textL KM)))), none, none, none, none, none, none] := by
  simp -implicitDefEqProofs [c_law_s4, KM_text]
theorem la5 (S : Option Vl) : es2 K30 c_law_s5 [S, some (.fr (.lst (KN.map insP))), some (.fr (.str (TX.mk (textL KM)))), none, none, none, none, none, none] = .ok .nx [S, some (.fr (.lst (KN.map insP))), some (.fr (.str (TX.mk (textL KM)))), none, none, none, none, none, none] := by
  have i := KM_drawn.init
  have f := KM_drawn.fmt
  have o := KM_drawn.okc
  simp only [prgD] at f
  have c1 : ev K30 (.bin .add (.var 1) (.lst (.one (.tup (.one (.con (.str "set")) (.one (.con (.int 0)) (.one (.con (.int 0)) .nil)))) .nil))) [S, some (.fr (.lst (KN.map insP))), some (.fr (.str (TX.mk (textL KM)))), none, none, none, none, none, none] = .ok (.fr (.lst (KM.map insP))) [S, some (.fr (.lst (KN.map insP))), some (.fr (.str (TX.mk (textL KM)))), none, none, none, none, none, none] := by
    simp -implicitDefEqProofs [KN, KM, insP, insD]
  simp -implicitDefEqProofs [-x_bin, c_law_s5, c1, i, f, o]
theorem la6 (S N : Option Vl) : es2 K30 c_law_s6 [S, N, some (.fr (.str (TX.mk (textL KM)))), none, none, none, none, none, none] = .ok .nx [S, N, some (.fr (.str (TX.mk (textL KM)))), none, none, none, none, none, none] := by
  have p := KM_drawn.parse
  have g := getitem_r KM 4 ("jump", [0, 7]) rfl
  have q : cmpD .ne (insP ("jump", [0, 7])) (insP ("jump", [0, 7])) = some false := by
    rw [cmpD_nes, Enc.ins.eqP (by decide) (ofS_ok _) (ofS_ok _)]
    simp [negO]
  simp only [prgD] at p g
  simp only [insP, insD, List.map_cons, List.map_nil] at q
  have g : s_Program_getitem [.fr (.obj 0 [.tup (KM.map insP), .bl (!KM.any fun p => jmp p.1)]), .fr (.int 4)] = .ok (.fr (insP ("jump", [0, 7]))) [none, none] := g
  simp only [insP, insD] at g p
  simp -implicitDefEqProofs [c_law_s6, p, g, q, insP, insD]
theorem la7 (S N T : Option Vl) : es2 K30 c_law_s7 [S, N, T, none, none, none, none, none, none] = .ok .nx [S, N, T, none, none, none, none, none, none] := by
  simp -implicitDefEqProofs [c_law_s7, long_right_r]
theorem lb2 (S N : Option Vl) (k : Option Vl) (pl : Option Vl) {l : List Ins} (d : Drawn l) (o : Option Vl) : ∃ o', for2 (as2 K30 (.nam 6)) (ess2 K30 c_law_b2) [prgD l, prgD l] [S, N, some (.fr (.str (TX.mk (textL l)))), k, pl, some (.fr (.lst (l.map insP))), o, some (.fr (prgD l)), none] = .ok .nx [S, N, some (.fr (.str (TX.mk (textL l)))), k, pl, some (.fr (.lst (l.map insP))), o', some (.fr (prgD l)), none] := by
  have q := fun e => d.ne K30 rfl e
  obtain ⟨r, ro⟩ := repr_prg (fun p hp => (d.gen p hp).rp) d.len
  have pi := prg_instr l
  have b : ess2 K30 c_law_b2 [S, N, some (.fr (.str (TX.mk (textL l)))), k, pl, some (.fr (.lst (l.map insP))), some (.fr (prgD l)), some (.fr (prgD l)), none] = .ok .nx [S, N, some (.fr (.str (TX.mk (textL l)))), k, pl, some (.fr (.lst (l.map insP))), some (.fr (prgD l)), some (.fr (prgD l)), none] := by
    simp only [prgD] at q pi ⊢
    simp -implicitDefEqProofs [-cmpX2_neo, -po_b_reprt, c_law_b2, c_law_b2s1, q, r, ro, pi]
  refine ⟨some (.fr (prgD l)), ?_⟩
  rw [for2_step (e1 := [S, N, some (.fr (.str (TX.mk (textL l)))), k, pl, some (.fr (.lst (l.map insP))), some (.fr (prgD l)), some (.fr (prgD l)), none]) rfl b]
  rw [for2_step (e1 := [S, N, some (.fr (.str (TX.mk (textL l)))), k, pl, some (.fr (.lst (l.map insP))), some (.fr (prgD l)), some (.fr (prgD l)), none]) rfl b]
  rfl
theorem lb1 (ns : List Int) (N : Option Vl) (k : Nat) (hk : k < 64) (o2 o4 o5 o6 o7 : Option Vl) : ∃ p2 p4 p5 p6 p7, ess2 K30 c_law_b1 [some (.fr (.rol (ns.map .int))), N, o2, some (.fr (.int k)), o4, o5, o6, o7, none] = .ok .nx [some (.fr (.rol (ns.map .int))), N, p2, some (.fr (.int k)), p4, p5, p6, p7, none] := by
  obtain ⟨a, b, hp, e1⟩ := pool_ex ns k hk
  obtain ⟨m, a1, b1, m0, m1, hp1, e2⟩ := take_ex hp (c := 21) (by decide)
  obtain ⟨mn, rfl⟩ : ∃ n : Nat, m = n := ⟨m.toNat, by omega⟩
  obtain ⟨l, a2, b2, hl, hg, hp2, e3⟩ := any_code_r mn (by omega) hp1
  have d : Drawn l := ⟨by rw [hl]; exact hg, by omega⟩
  have i := d.init
  have f := d.fmt
  have o := d.okc
  have p := d.parse
  have s := d.asm
  have t1 : es2 K30 c_law_b1s1 [some (.fr (.rol (ns.map .int))), N, o2, some (.fr (.int k)), o4, o5, o6, o7, none] = .ok .nx [some (.fr (.rol (ns.map .int))), N, o2, some (.fr (.int k)), some (.ls [.int a, .int b]), o5, o6, o7, none] := by
    simp -implicitDefEqProofs [c_law_b1s1, e1]
  have t2 : es2 K30 c_law_b1s2 [some (.fr (.rol (ns.map .int))), N, o2, some (.fr (.int k)), some (.ls [.int a, .int b]), o5, o6, o7, none] = .ok .nx [some (.fr (.rol (ns.map .int))), N, o2, some (.fr (.int k)), some (.ls [.int a2, .int b2]), some (.fr (.lst (l.map insP))), o6, o7, none] := by
    simp -implicitDefEqProofs [c_law_b1s2, e2, e3]
  have k1 : ev K30 c_law_k1 [some (.fr (.rol (ns.map .int))), N, o2, some (.fr (.int k)), some (.ls [.int a2, .int b2]), some (.fr (.lst (l.map insP))), o6, o7, none] = _ := texts_ev K30 5 8 21 rfl d [some (.fr (.rol (ns.map .int))), N, o2, some (.fr (.int k)), some (.ls [.int a2, .int b2]), some (.fr (.lst (l.map insP))), o6, o7, none] rfl rfl (.inl rfl)
  have j := text_join K30 _ d _ _ k1
  have t3 : es2 K30 c_law_b1s3 [some (.fr (.rol (ns.map .int))), N, o2, some (.fr (.int k)), some (.ls [.int a2, .int b2]), some (.fr (.lst (l.map insP))), o6, o7, none] = .ok .nx [some (.fr (.rol (ns.map .int))), N, some (.fr (.str (TX.mk (textL l)))), some (.fr (.int k)), some (.ls [.int a2, .int b2]), some (.fr (.lst (l.map insP))), o6, some (.fr (prgD l)), none] := by
    simp -implicitDefEqProofs [-x_join, c_law_b1s3, i, j, prgD]
  have t4 : es2 K30 c_law_b1s4 [some (.fr (.rol (ns.map .int))), N, some (.fr (.str (TX.mk (textL l)))), some (.fr (.int k)), some (.ls [.int a2, .int b2]), some (.fr (.lst (l.map insP))), o6, some (.fr (prgD l)), none] = .ok .nx [some (.fr (.rol (ns.map .int))), N, some (.fr (.str (TX.mk (textL l)))), some (.fr (.int k)), some (.ls [.int a2, .int b2]), some (.fr (.lst (l.map insP))), o6, some (.fr (prgD l)), none] := by
    simp -implicitDefEqProofs [c_law_b1s4, f, o]
  obtain ⟨o6', z⟩ := lb2 (some (.fr (.rol (ns.map .int)))) N (some (.fr (.int k))) (some (.ls [.int a2, .int b2])) d o6
  have t5 : es2 K30 c_law_b1s5 [some (.fr (.rol (ns.map .int))), N, some (.fr (.str (TX.mk (textL l)))), some (.fr (.int k)), some (.ls [.int a2, .int b2]), some (.fr (.lst (l.map insP))), o6, some (.fr (prgD l)), none] = .ok .nx [some (.fr (.rol (ns.map .int))), N, some (.fr (.str (TX.mk (textL l)))), some (.fr (.int k)), some (.ls [.int a2, .int b2]), some (.fr (.lst (l.map insP))), o6', some (.fr (prgD l)), none] := by
    simp -implicitDefEqProofs [c_law_b1s5, p, s, z]
  refine ⟨some (.fr (.str (TX.mk (textL l)))), some (.ls [.int a2, .int b2]), some (.fr (.lst (l.map insP))), o6', some (.fr (prgD l)), ?_⟩
  simp -implicitDefEqProofs only [c_law_b1, cs_cons, cs_nil, t1, t2, t3, t4, t5, rb_ok, seqR_nx]
theorem lloop (ns : List Int) (N : Option Vl) : ∀ (ks : List Nat), (∀ k ∈ ks, k < 64) → ∀ o2 o3 o4 o5 o6 o7 : Option Vl, ∃ p2 p3 p4 p5 p6 p7, for2 (as2 K30 (.nam 3)) (ess2 K30 c_law_b1) (ks.map fun i => .int (i : Nat)) [some (.fr (.rol (ns.map .int))), N, o2, o3, o4, o5, o6, o7, none] = .ok .nx [some (.fr (.rol (ns.map .int))), N, p2, p3, p4, p5, p6, p7, none]
  | [], _, o2, o3, o4, o5, o6, o7 => ⟨o2, o3, o4, o5, o6, o7, rfl⟩
  | k :: ks, h, o2, o3, o4, o5, o6, o7 => by
    obtain ⟨p2, p4, p5, p6, p7, e⟩ := lb1 ns N k (h k List.mem_cons_self) o2 o4 o5 o6 o7
    obtain ⟨q2, q3, q4, q5, q6, q7, r⟩ := lloop ns N ks (fun x hx => h x (List.mem_cons_of_mem _ hx)) p2 (some (.fr (.int (k : Nat)))) p4 p5 p6 p7
    exact ⟨q2, q3, q4, q5, q6, q7, by rw [List.map_cons, for2_step (e1 := [some (.fr (.rol (ns.map .int))), N, o2, some (.fr (.int (k : Nat))), o4, o5, o6, o7, none]) rfl e, r]⟩
theorem law_r (ns : List Int) (hn : ns.length ≤ 63) : s_law [.fr (.rol (ns.map .int))] = .ok (.fr (.bl true)) [none] := by
  have key : ∃ m : Nat, m < 64 ∧ (if (if (ns.length : Int) < 10 then (ns.length : Int) else 10) > 1 then (if (ns.length : Int) < 10 then (ns.length : Int) else 10) else 1) = m := by
    refine ⟨(if (if (ns.length : Int) < 10 then (ns.length : Int) else 10) > 1 then (if (ns.length : Int) < 10 then (ns.length : Int) else 10) else 1).toNat, ?_, ?_⟩
    · split <;> (try split) <;> omega
    · split <;> (try split) <;> omega
  obtain ⟨m, hm, em⟩ := key
  obtain ⟨q2, q3, q4, q5, q6, q7, r⟩ := lloop ns (some (.fr (.lst (KN.map insP)))) (List.range m) (fun k hk => by have := List.mem_range.mp hk; omega) (some (.fr (.str (TX.mk (textL KM))))) none none none none none
  have l8 : es2 K30 c_law_s8 [some (.fr (.rol (ns.map .int))), some (.fr (.lst (KN.map insP))), some (.fr (.str (TX.mk (textL KM)))), none, none, none, none, none, none] = .ok .nx [some (.fr (.rol (ns.map .int))), some (.fr (.lst (KN.map insP))), q2, q3, q4, q5, q6, q7, none] := by
    have g1 : -4611686018427387904 ≤ (m : Int) := by omega
    have g2 : (m : Int) < 16777216 := by omega
    have em' := em
    simp only [gt_iff_lt] at em'
    simp -implicitDefEqProofs [-int_ite, c_law_s8, em', g1, g2, r]
  rw [s_law, sem2_app _ _ _ rfl rfl]
  simp -implicitDefEqProofs [-c_asg, -c_ite, -c_for, c_law, la1, la2, la3, la4, la5, la6, la7, l8]
  simp -implicitDefEqProofs [c_law_s9]
theorem plain (ns : List Int) (hn : ns.length ≤ 63) : ∃ h, (c_law.sem C30) [.rol (ns.map D.int)] [] = .ok (.bl true) h := law_end (law_r ns hn)
end G71
end
section
set_option Elab.async false
set_option linter.all false
set_option maxRecDepth 100000
set_option maxHeartbeats 0
namespace G71
open PySem PySem.Spec PyProof.Rows L2 SX
abbrev Plain : Prop := ∀ ns : List Int, ns.length ≤ 63 → ∃ h, (c_law.sem C30) [.rol (ns.map D.int)] [] = .ok (.bl true) h
end G71
open PySem PySem.W PySem.Calls PyProof.Rows
theorem G71_end (plain : G71.Plain) : PySem.Challenge.rw_carryrounds_k71_programs_written.Holds := by
  w_on; o_law
  refine HandSHeadRun.head_any (r := OpenLaw.row PySem.Challenge.rw_carryrounds_k71_programs_written) (q := view (OpenLaw.row PySem.Challenge.rw_carryrounds_k71_programs_written).prog [45]) (H := G71.hk) (ob := G71.ob) (M := 4000) (loose := G71.names) (d := HandSHeadRun.topDef (OpenLaw.row PySem.Challenge.rw_carryrounds_k71_programs_written).prog 45) (kwd := []) G71.ob_eq
    (by kernel_rfl) (fun s => by kernel_rfl) G71.run (by kernel_rfl) (by kernel_rfl) (by kernel_rfl) (by rfl) (by first | assumption | decide +kernel) (by decide +kernel) ⟨rfl, rfl, rfl, rfl, rfl, by decide +kernel⟩ ?hw ?hc
  case hw => w_witness2
  case hc =>
    refine SX.walk_S (l := PySem.Challenge.rw_carryrounds_k71_programs_written) (n := 63) (k := 62) rfl (by decide) (by kernel_rfl) ⟨rfl, by decide, by decide⟩ ?F
    intro w mg fa h Y G hmg0
    obtain ⟨K, KX, c⟩ := Y
    have hmg : mg ("law" : PySem.Str) = some (.ref fa) := by
      have e : (HandSHeadRun.topDef (OpenLaw.row PySem.Challenge.rw_carryrounds_k71_programs_written).prog 45).name = ("law" : PySem.Str) := by kernel_rfl
      rw [← e]
      exact hmg0
    have e := hmg.symm.trans (SX.fk_fn KX G (SX.says_fk c 35 (f := .fn "law") rfl)).1
    cases e
    exact ⟨K, G71.L.T K, _, rfl, KX, plain, fun base KB GB => G71.law_fn KB GB c⟩
end
theorem PySem.Challenge.cw_carryrounds_k71_programs_written_holds : PySem.Challenge.rw_carryrounds_k71_programs_written.Holds :=
  G71_end G71.plain
