import PyProof.Rows.All
import Wide.All
import OpenK.AllK
import Wide.FinOn
import HandS.ForMost
import HandS.ForExc
import HandS.CallSlots
import HandS.IsInst
import HandS.Deep
import HandS.SortInts
import HandS.TupAny
import HandS.Flow
import HandS.Small
import HandS.Iter
import KE.SortKeyHeap
import HandS.More
import HandS.SortKw
import HandS.Words
import HandS.Ends
import HandS.WordsExc
import PySem.Challenge.RW_cupdraw_k33_whole_lesser_ones_win
set_option linter.all false
/-! Cd: values as trees, with who owns what; what statements do, as functions of the slots. Plain Lean. -/
namespace Cd

/-- whose a container is: one's own (it may be changed), frozen for ever, lent by the caller, a look at one's own -/
inductive Fl where | own | frz | bor | tmp
  deriving DecidableEq, Repr

inductive T where
  | non | bl (b : Bool) | int (i : Int) | str (x : List Nat)
  | lst (f : Fl) (ts : List T)
  | tup (f : Fl) (ts : List T)
  | dK (f : Fl) (ks : List Int) (ts : List T)
  | dT (f : Fl) (ks : List (List Int)) (ts : List T)
  | ins (f : Fl) (c : Nat) (ns : List Nat) (ts : List T)
  | exc (c : Nat) (ts : List T)
  /-- the script; a written tuple -/
  | kon (l : Bool) (ts : List T)
  deriving Repr

namespace T
def fl1 (g : Fl → Fl) : T → T
  | lst f ts => lst (g f) ts
  | tup f ts => tup (g f) ts
  | dK f ks ts => dK (g f) ks ts
  | dT f ks ts => dT (g f) ks ts
  | ins f c ns ts => ins (g f) c ns ts
  | t => t
end T
def Fl.view : Fl → Fl | own => tmp | f => f
/-- an item's flag, seen in a container of flag f -/
def Fl.under (f : Fl) : Fl → Fl
  | frz => frz
  | _ => (match f with | own => tmp | f => f)
def Fl.lend : Fl → Fl | own => bor | tmp => bor | f => f
def Fl.back : Fl → Fl | bor => tmp | f => f
namespace T
def view (t : T) : T := t.fl1 Fl.view
def of (f : Fl) (t : T) : T := t.fl1 (Fl.under f)
def lend (t : T) : T := t.fl1 Fl.lend
def back (t : T) : T := t.fl1 Fl.back
def flag : T → Fl
  | lst f _ => f | tup f _ => f | dK f _ _ => f | dT f _ _ => f | ins f _ _ _ => f | _ => .frz
/-- own or frozen -/
def solid (t : T) : Bool := match t.flag with | .own => true | .frz => true | _ => false
/-- no look at one's own -/
def nt (t : T) : Bool := match t.flag with | .tmp => false | _ => true
def frz1 (t : T) : Option T := if t.solid then some (t.fl1 fun _ => .frz) else none
/-- the items of a list or a tuple -/
def items : T → Option (List T)
  | lst f ts => some (ts.map (of f))
  | tup f ts => some (ts.map (of f))
  | kon _ ts => some (ts.map (of .frz))
  | _ => none
end T

structure Ex where
  c : Nat
  ts : List T := []
  deriving Repr

abbrev Env := List (Option T)

/-! ### pure expressions -/
inductive PRes where | ok (t : T) | exc (x : Ex) | bad
def PRes.bind (r : PRes) (k : T → PRes) : PRes := match r with | .ok t => k t | .exc x => .exc x | .bad => .bad
@[simp] theorem PRes.bind_ok {t k} : PRes.bind (.ok t) k = k t := rfl
@[simp] theorem PRes.bind_exc {x k} : PRes.bind (.exc x) k = .exc x := rfl
@[simp] theorem PRes.bind_bad {k} : PRes.bind .bad k = .bad := rfl
def ofO : Option T → PRes | some t => .ok t | none => .bad
@[simp] theorem ofO_some {t} : ofO (some t) = .ok t := rfl
@[simp] theorem ofO_none : ofO none = .bad := rfl
abbrev P := Env → PRes
abbrev Ps := Env → (List T → PRes) → PRes
def pVar (i : Nat) : P := fun e => match e[i]? with | some (some t) => .ok t.view | _ => .bad
def pC (t : T) : P := fun _ => .ok t
def p1 (g : T → PRes) (a : P) : P := fun e => (a e).bind g
def p2 (g : T → T → PRes) (a b : P) : P := fun e => (a e).bind fun x => (b e).bind fun y => g x y
def p3 (g : T → T → T → PRes) (a b c : P) : P := fun e => (a e).bind fun x => (b e).bind fun y => (c e).bind fun z => g x y z
/-- arguments, from the left -/
inductive LRes where | ok (ts : List T) | exc (x : Ex) | bad
abbrev A := Env → LRes
def LRes.bind (r : LRes) (k : List T → PRes) : PRes := match r with | .ok ts => k ts | .exc x => .exc x | .bad => .bad
@[simp] theorem LRes.bind_ok {t k} : LRes.bind (.ok t) k = k t := rfl
def aNil : A := fun _ => .ok []
def aCons (a : P) (r : A) : A := fun e => match a e with
  | .ok t => (match r e with | .ok ts => .ok (t :: ts) | .exc x => .exc x | .bad => .bad)
  | .exc x => .exc x | .bad => .bad
def pA (g : List T → PRes) (a : A) : P := fun e => (a e).bind g
def PRes.test (r : PRes) (a b : PRes) : PRes := match r with | .ok (.bl true) => a | .ok (.bl false) => b | .exc x => .exc x | _ => .bad
@[simp] theorem test_t {a b} : PRes.test (.ok (.bl true)) a b = a := rfl
@[simp] theorem test_f {a b} : PRes.test (.ok (.bl false)) a b = b := rfl
theorem test_if {c : Bool} {a b} : PRes.test (.ok (.bl c)) a b = if c then a else b := by cases c <;> rfl
def pIf (c a b : P) : P := fun e => (c e).test (a e) (b e)
def pAnd (a b : P) : P := fun e => (a e).test (b e) (.ok (.bl false))
def pOr (a b : P) : P := fun e => (a e).test (.ok (.bl true)) (b e)
def gNot : T → PRes | .bl b => .ok (.bl (!b)) | _ => .bad
/-- a fresh container is frozen -/
def pFz (a : P) : P := p1 (fun t => ofO t.frz1) a
/-- displays -/
def lineN : Nat := 16777216
def dTup (ts : List T) : PRes := if ts.all T.solid && decide (ts.length ≤ lineN) then .ok (.tup .frz (ts.map fun t => t.fl1 fun _ => .frz)) else .bad
def dLst (ts : List T) : PRes := if ts.all T.solid && decide (ts.length ≤ lineN) then .ok (.lst .own ts) else .bad
def pDK : P := fun _ => .ok (.dK .own [] [])
def pDT : P := fun _ => .ok (.dT .own [] [])
/-- a < b < c -/
def pChain (g g' : T → T → PRes) (p q r : P) : P := fun e => (p e).bind fun x => (q e).bind fun y => (g x y).test ((r e).bind fun z => g' y z) (.ok (.bl false))

/-! ### values -/
def gInt2 (f : Int → Int → T) : T → T → PRes | .int i, .int j => .ok (f i j) | _, _ => .bad
def gAdd := gInt2 fun i j => .int (i + j)
def gSub := gInt2 fun i j => .int (i - j)
/-- one factor is below 2 ^ 64 -/
def gMul : T → T → PRes
  | .int i, .int j => if (-(2 ^ 64) < i ∧ i < 2 ^ 64) ∨ (-(2 ^ 64) < j ∧ j < 2 ^ 64) then .ok (.int (i * j)) else .bad
  | _, _ => .bad
def gMod : T → T → PRes | .int i, .int j => if j = 0 then .bad else .ok (.int (i.fmod j)) | _, _ => .bad
def gDiv : T → T → PRes | .int i, .int j => if j ≠ 0 ∧ j.natAbs < 1073741824 then .ok (.int (i.fdiv j)) else .bad | _, _ => .bad
def gPow : T → T → PRes | .int i, .int j => if 0 ≤ j ∧ j ≤ 1000000 ∧ i.natAbs < 2 ^ 64 then .ok (.int (i ^ j.toNat)) else .bad | _, _ => .bad
def gNeg : T → PRes | .int i => .ok (.int (-i)) | _ => .bad
def gLt := gInt2 fun i j => .bl (decide (i < j))
def gLe := gInt2 fun i j => .bl (decide (i ≤ j))
def gGt := gInt2 fun i j => .bl (decide (j < i))
def gGe := gInt2 fun i j => .bl (decide (j ≤ i))
def gIsN : T → PRes | .non => .ok (.bl true) | _ => .ok (.bl false)
def gNotN : T → PRes | .non => .ok (.bl false) | _ => .ok (.bl true)
/-- plain data, at most so deep -/
def shal : Nat → T → Bool
  | _, .non => true
  | _, .bl _ => true
  | _, .int _ => true
  | _, .str _ => true
  | 0, _ => false
  | k + 1, .lst _ ts => ts.all (shal k)
  | k + 1, .tup _ ts => ts.all (shal k)
  | _ + 1, _ => false
mutual
def eqB : T → T → Bool
  | .non, .non => true
  | .bl a, .bl b => a == b
  | .bl a, .int b => (if a then 1 else 0) == b
  | .int a, .bl b => a == (if b then 1 else 0)
  | .int a, .int b => a == b
  | .str a, .str b => a == b
  | .lst _ ts, .lst _ us => eqBs ts us
  | .tup _ ts, .tup _ us => eqBs ts us
  | _, _ => false
def eqBs : List T → List T → Bool
  | [], [] => true
  | t :: ts, u :: us => eqB t u && eqBs ts us
  | [], _ :: _ => false
  | _ :: _, [] => false
end
def gEq (x y : T) : PRes := if shal 20 x && shal 20 y then .ok (.bl (eqB x y)) else .bad
def gNe (x y : T) : PRes := if shal 20 x && shal 20 y then .ok (.bl (!eqB x y)) else .bad

/-! ### expressions that change one's own things; statements -/
inductive ERes | ok (t : T) (e : Env) | exc (x : Ex) (e : Env) | bad
abbrev I := Env → ERes
def iP (p : P) : I := fun e => match p e with | .ok t => .ok t e | .exc x => .exc x e | .bad => .bad
/-- the name's thing goes out of the name -/
def iMv (i : Nat) : I := fun e => match e[i]? with | some (some t) => .ok t (e.set i none) | _ => .bad
/-- the name's thing is frozen, and read -/
def iFr (i : Nat) : I := fun e => match e[i]? with | some (some t) => (match t.frz1 with | some u => .ok u (e.set i (some u)) | none => .bad) | _ => .bad
def ERes.bind (r : ERes) (k : T → Env → ERes) : ERes := match r with | .ok t e => k t e | .exc x e => .exc x e | .bad => .bad
def ERes.on (r : ERes) (k : T → PRes) : ERes := match r with
  | .ok t e => (match k t with | .ok u => .ok u e | .exc x => .exc x e | .bad => .bad)
  | .exc x e => .exc x e | .bad => .bad
def i1 (g : T → PRes) (a : I) : I := fun e => (a e).on g
def iFz (a : I) : I := i1 (fun t => ofO t.frz1) a
/-- what stays as it is whatever is done to one's own -/
def T.still (t : T) : Bool := match t.flag with | .frz => true | .bor => true | _ => false
/-- the first value stays as it is -/
def i2 (g : T → T → PRes) (a b : I) : I := fun e => match a e with
  | .ok x e1 => if x.still then (b e1).on (g x) else .bad
  | .exc x e => .exc x e | .bad => .bad
def ERes.test (r : ERes) (a b : Env → ERes) : ERes := match r with | .ok (.bl true) e => a e | .ok (.bl false) e => b e | .exc x e => .exc x e | _ => .bad
def iAnd (a b : I) : I := fun e => (a e).test b (fun e => .ok (.bl false) e)
def iOr (a b : I) : I := fun e => (a e).test (fun e => .ok (.bl true) e) b

inductive SRes | next (e : Env) | ret (t : T) (e : Env) | brk (e : Env) | cont (e : Env) | exc (x : Ex) (e : Env) | bad
abbrev M := Env → SRes
def mNext : M := fun e => .next e
def mBrk : M := fun e => .brk e
def mCont : M := fun e => .cont e
def mBad : M := fun _ => .bad
def SRes.seq (r : SRes) (k : M) : SRes := match r with | .next e => k e | .ret t e => .ret t e | .brk e => .brk e | .cont e => .cont e | .exc x e => .exc x e | .bad => .bad
@[simp] theorem SRes.seq_next {e k} : SRes.seq (.next e) k = k e := rfl
@[simp] theorem SRes.seq_ret {t e k} : SRes.seq (.ret t e) k = .ret t e := rfl
@[simp] theorem SRes.seq_exc {t e k} : SRes.seq (.exc t e) k = .exc t e := rfl
@[simp] theorem SRes.seq_brk {e k} : SRes.seq (.brk e) k = .brk e := rfl
@[simp] theorem SRes.seq_cont {e k} : SRes.seq (.cont e) k = .cont e := rfl
@[simp] theorem SRes.seq_bad {k} : SRes.seq .bad k = .bad := rfl
def mSeq (a b : M) : M := fun e => (a e).seq b
def mRet (a : I) : M := fun e => match a e with | .ok t e => .ret t e | .exc x e => .exc x e | .bad => .bad
def mRetN : M := fun e => .ret .non e
def mDrop (a : I) : M := fun e => match a e with | .ok _ e => .next e | .exc x e => .exc x e | .bad => .bad
def mRaise (c : Nat) : M := fun e => .exc ⟨c, []⟩ e
def mIf (c : I) (a b : M) : M := fun e => match c e with | .ok (.bl true) e => a e | .ok (.bl false) e => b e | .exc x e => .exc x e | _ => .bad
/-- targets -/
inductive Tg | nm (i : Nat) | tp (l : List Tg)
mutual
def Tg.put : Tg → T → Env → Option Env
  | .nm i, t, e => if t.nt then some (e.set i (some t)) else none
  | .tp l, .tup f ts, e => Tg.puts l (ts.map (T.of f)) e
  | .tp _, _, _ => none
def Tg.puts : List Tg → List T → Env → Option Env
  | [], [], e => some e
  | g :: gs, t :: ts, e => (match g.put t e with | some e => Tg.puts gs ts e | none => none)
  | _, _, _ => none
end
def mAsg (g : Tg) (a : I) : M := fun e => match a e with
  | .ok t e => (match g.put t e with | some e => .next e | none => .bad)
  | .exc x e => .exc x e | .bad => .bad
/-- slots forgotten -/
def forget (fg : List Nat) (e : Env) : Env := fg.foldl (fun e i => e.set i none) e
def forGo (g : Tg) (body : M) (fg : List Nat) : List T → M
  | [], e => .next e
  | t :: ts, e => match g.put t e with
    | none => .bad
    | some e1 => match body e1 with
      | .next e2 => forGo g body fg ts (forget fg e2)
      | .cont e2 => forGo g body fg ts (forget fg e2)
      | .brk e2 => .next e2
      | r => r
def mFor (s : A) (g : Tg) (body : M) (fg : List Nat) : M := fun e => match s e with
  | .ok ts => forGo g body fg ts e
  | .exc x => .exc x e | .bad => .bad
def whGo (c : P) (body : M) (fg : List Nat) : Nat → M
  | 0, _ => .bad
  | n + 1, e => match c e with
    | .ok (.bl true) => (match body e with
      | .next e2 => whGo c body fg n (forget fg e2)
      | .cont e2 => whGo c body fg n (forget fg e2)
      | .brk e2 => .next e2
      | r => r)
    | .ok (.bl false) => .next e
    | .exc x => .exc x e
    | _ => .bad
def mWhile (n : Env → Nat) (c : P) (body : M) (fg : List Nat) : M := fun e => whGo c body fg (n e) e
/-! sources -/
/-- a list, a tuple that stands while it is walked -/
def stands (f : Fl) : Bool := match f with | .frz => true | .bor => true | _ => false
def sList (p : P) : A := fun e => match p e with
  | .ok (.lst f ts) => if stands f then .ok (ts.map (T.of f)) else .bad
  | .exc x => .exc x | _ => .bad
def sTup (p : P) : A := fun e => match p e with
  | .ok (.tup f ts) => if stands f then .ok (ts.map (T.of f)) else .bad
  | .exc x => .exc x | _ => .bad
def rngT (lo : Int) (n : Nat) : List T := (List.range n).map fun k => .int (lo + (k : Nat))
def inR (i : Int) : Bool := decide (-(2 ^ 62) ≤ i) && decide (i < 2 ^ 62)
def inR0 (i : Int) : Bool := decide (i ≤ 16777216)
def sRng1 (p : P) : A := fun e => match p e with
  | .ok (.int n) => if inR n && inR0 n then .ok (rngT 0 n.toNat) else .bad
  | .exc x => .exc x | _ => .bad
def sRng2 (p q : P) : A := fun e => match p e with
  | .ok (.int a) => (match q e with
    | .ok (.int b) => if inR a && inR b && inR0 (b - a) then .ok (rngT a (b - a).toNat) else .bad
    | .exc x => .exc x | _ => .bad)
  | .exc x => .exc x | _ => .bad
/-- a, a + 2, .. -/
def rng2T (lo : Int) (n : Nat) : List T := (List.range n).map fun k => .int (lo + (k : Nat) * 2)
def sRngBy2 (p q : P) : A := fun e => match p e with
  | .ok (.int a) => (match q e with
    | .ok (.int b) => if inR a && inR b && inR0 (b - a) then .ok (rng2T a ((b - a + 1) / 2).toNat) else .bad
    | .exc x => .exc x | _ => .bad)
  | .exc x => .exc x | _ => .bad
/-! ### comprehensions -/
/-- one's own things only looked at -/
def ro (e : Env) : Env := e.map fun s => s.map T.lend
def wipeE (e : Env) : List Nat → Env
  | [] => e
  | v :: vs => (wipeE e vs).set v none
def lcGo (g : Tg) (c : P) (elt : P) (e : Env) : List T → LRes
  | [] => .ok []
  | t :: ts => match g.put t e with
    | none => .bad
    | some e1 => match c e1 with
      | .ok (.bl true) => (match elt e1 with
        | .ok u => if u.solid then (match lcGo g c elt e ts with | .ok us => .ok (u :: us) | .exc x => .exc x | .bad => .bad) else .bad
        | _ => .bad)
      | .ok (.bl false) => lcGo g c elt e ts
      | _ => .bad
def pYes : P := pC (.bl true)
def pLc (s : A) (g : Tg) (c elt : P) (vs : List Nat) : P := fun e => match s (ro e) with
  | .ok ts => (match lcGo g c elt (wipeE (ro e) vs) ts with | .ok us => .ok (.lst .own us) | _ => .bad)
  | .exc x => .exc x | .bad => .bad
/-! ### defs -/
inductive FRes | ret (t : T) (outs : List T) | exc (x : Ex) (outs : List T) | bad
/-- what stands at the places io (rising) of e, which begins at the place k -/
def outsAt : Nat → Env → List Nat → Option (List T)
  | _, _, [] => some []
  | _, [], _ :: _ => none
  | k, s :: e, i :: is => if i = k then
      (match s with
        | some t => (match t.flag with
          | .own => (match outsAt (k + 1) e is with | some ts => some (t :: ts) | none => none)
          | _ => none)
        | none => none)
      else outsAt (k + 1) e (i :: is)
def outs (e : Env) (io : List Nat) : Option (List T) := outsAt 0 e io
/-- a def of n parameters by its body: k further names, the parameters io are changed -/
def defM (n k : Nat) (io : List Nat) (body : M) : List T → FRes := fun ts =>
  if ts.length = n then (match body (ts.map some ++ List.replicate k none) with
    | .next e => (match outs e io with | some os => .ret .non os | none => .bad)
    | .ret t e => (match outs e io with | some os => .ret t os | none => .bad)
    | .exc x e => (match outs e io with | some os => .exc x os | none => .bad)
    | _ => .bad) else .bad
/-- a call of a def that changes nothing -/
def gCall (m : List T → FRes) : List T → PRes := fun ts => match m (ts.map T.lend) with
  | .ret t _ => .ok t.back
  | .exc x _ => .exc x
  | .bad => .bad
/-! ### objects -/
def fldAt : List Nat → List T → Nat → Option T
  | n :: ns, t :: ts, m => if n = m then some t else fldAt ns ts m
  | _, _, _ => none
def fldPut : List Nat → List T → Nat → T → List Nat × List T
  | n :: ns, t :: ts, m, u => if n = m then (n :: ns, u :: ts) else (n :: (fldPut ns ts m u).1, t :: (fldPut ns ts m u).2)
  | _, _, m, u => ([m], [u])
/-- o.f, o of the class c -/
def gFld (c n : Nat) : T → PRes
  | .ins f c' ns ts => if c' = c then (match fldAt ns ts n with | some t => .ok (t.of f) | none => .bad) else .bad
  | _ => .bad
/-- o.m(..), o of the class c -/
def gMeth (c : Nat) (m : List T → FRes) : List T → PRes
  | .ins f c' ns ts :: us => if c' = c then gCall m (.ins f c' ns ts :: us) else .bad
  | _ => .bad
/-! ### calls that change their arguments -/
/-- an argument: a value, or a name whose thing is handed over and comes back -/
inductive Ar | val (a : I) | own (i : Nat)
inductive VRes | ok (ts : List (Option T)) (e : Env) | exc (x : Ex) (e : Env) | bad
/-- first the values, from the left -/
def iVals : List Ar → Env → VRes
  | [], e => .ok [] e
  | .val a :: r, e => match a e with
    | .ok t e1 => if t.still then (match iVals r e1 with | .ok ts e2 => .ok (some t :: ts) e2 | .exc x e2 => .exc x e2 | .bad => .bad) else .bad
    | .exc x e1 => .exc x e1
    | .bad => .bad
  | .own _ :: r, e => match iVals r e with | .ok ts e2 => .ok (none :: ts) e2 | .exc x e2 => .exc x e2 | .bad => .bad
/-- then the names' things -/
def iTake : List Ar → List (Option T) → Env → Option (List T × Env)
  | [], [], e => some ([], e)
  | .val _ :: r, some t :: ts, e => match iTake r ts e with | some (us, e2) => some (t :: us, e2) | none => none
  | .own i :: r, none :: ts, e => match e[i]? with
    | some (some t) => (match t.flag with
      | .own => (match iTake r ts (e.set i none) with | some (us, e2) => some (t :: us, e2) | none => none)
      | _ => none)
    | _ => none
  | _, _, _ => none
/-- what is handed to the callee: the things at io as they are, from the place k on -/
def handed : Nat → List Nat → List T → List T
  | _, _, [] => []
  | k, [], t :: ts => t.lend :: handed (k + 1) [] ts
  | k, i :: is, t :: ts => if i = k then t :: handed (k + 1) is ts else t.lend :: handed (k + 1) (i :: is) ts
/-- put back: what was handed over stands in its name again, changed where it was changed -/
def putBack : Nat → List Nat → List Ar → List T → List T → Env → Env
  | _, _, [], _, _, e => e
  | _, _, _ :: _, [], _, e => e
  | k, io, .val _ :: as, _ :: ts, os, e => putBack (k + 1) io as ts os e
  | k, [], .own i :: as, t :: ts, os, e => putBack (k + 1) [] as ts os (e.set i (some t))
  | k, j :: js, .own i :: as, t :: ts, os, e => if j = k then (match os with | o :: os => putBack (k + 1) js as ts os (e.set i (some o)) | [] => e)
      else putBack (k + 1) (j :: js) as ts os (e.set i (some t))
/-- the places io are names handed over -/
def ioOwn : Nat → List Nat → List Ar → Bool
  | _, [], _ => true
  | _, _ :: _, [] => false
  | k, i :: is, a :: r => if i = k then (match a with | .own _ => ioOwn (k + 1) is r | .val _ => false) else ioOwn (k + 1) (i :: is) r
def ownsThere : List Ar → Env → Bool
  | [], _ => true
  | .val _ :: r, e => ownsThere r e
  | .own i :: r, e => (match e[i]? with | some (some _) => true | _ => false) && ownsThere r e
def iCall (m : List T → FRes) (io : List Nat) (as : List Ar) : I := fun e =>
  if ownsThere as e && ioOwn 0 io as then
    (match iVals as e with
    | .ok vs e0 => (match iTake as vs e0 with
      | some (ts, e1) => (match m (handed 0 io ts) with
        | .ret t os => .ok t.back (putBack 0 io as ts os e1)
        | .exc x os => .exc x (putBack 0 io as ts os e1)
        | .bad => .bad)
      | none => .bad)
    | .exc x e1 => .exc x e1
    | .bad => .bad)
  else .bad
/-! ### places within one's own things -/
inductive Step | fd (n : Nat) | ix (k : Nat)
def fldIx : List Nat → Nat → Option Nat
  | [], _ => none
  | m :: ns, n => if m = n then some 0 else (fldIx ns n).map (· + 1)
def T.sub : T → List Step → Option T
  | t, [] => some t
  | .ins .own _ ns ts, .fd n :: p => (match fldIx ns n with | some j => (match ts[j]? with | some t => t.sub p | none => none) | none => none)
  | .lst .own ts, .ix k :: p => (match ts[k]? with | some t => t.sub p | none => none)
  | _, _ => none
def T.putAt : T → List Step → T → T
  | _, [], u => u
  | .ins .own c ns ts, .fd n :: p, u => (match fldIx ns n with | some j => (match ts[j]? with | some t => .ins .own c ns (ts.set j (t.putAt p u)) | none => .non) | none => .non)
  | .lst .own ts, .ix k :: p, u => (match ts[k]? with | some t => .lst .own (ts.set k (t.putAt p u)) | none => .non)
  | _, _, _ => .non
/-- a place: a name, the way from it -/
abbrev LvE := Env → Option (Nat × List Step)
def lvVar (i : Nat) : LvE := fun _ => some (i, [])
def subAt (e : Env) (i : Nat) (p : List Step) : Option T := match e[i]? with | some (some t) => t.sub p | _ => none
def lvFld (c n : Nat) (q : LvE) : LvE := fun e => match q e with
  | some (i, p) => (match subAt e i p with | some (.ins .own c' _ _) => if c' = c then some (i, p ++ [.fd n]) else none | _ => none)
  | none => none
def ixOf (n : Nat) (i : Int) : Option Nat := if 0 ≤ i then (if i < n then some i.toNat else none) else if -(n : Int) ≤ i then some (i + n).toNat else none
def lvIx (q : LvE) (a : P) : LvE := fun e => match q e with
  | some (i, p) => (match subAt e i p, a e with
    | some (.lst .own ts), .ok (.int k) => (match ixOf ts.length k with | some j => some (i, p ++ [.ix j]) | none => none)
    | _, _ => none)
  | none => none
def putPath (e : Env) (i : Nat) (p : List Step) (u : T) : Env := match e[i]? with | some (some t) => e.set i (some (t.putAt p u)) | _ => e
/-- x.m(..): op tells what becomes of the thing, and what is handed back -/
def iUpd (q : LvE) (as : A) (op : T → List T → Option (T × T)) : I := fun e => match q e with
  | some (i, p) => (match subAt e i p with
    | some t => (match t.flag with
      | .own => (match as e with
        | .ok ts => (match op t ts with | some (u, r) => .ok r (putPath e i p u) | none => .bad)
        | _ => .bad)
      | _ => .bad)
    | none => .bad)
  | none => .bad
/-- something is stored in a place -/
def storeAt (q : LvE) (op : T → Option T) (e : Env) : Option Env := match q e with
  | some (i, p) => (match subAt e i p with
    | some t => (match t.flag with
      | .own => (match op t with | some t' => some (putPath e i p t') | none => none)
      | _ => none)
    | none => none)
  | none => none
def SRes.ofE : Option Env → SRes | some e => .next e | none => .bad
@[simp] theorem ofE_some {e} : SRes.ofE (some e) = .next e := rfl
/-- x[i] = v -/
def mSetIx (q : LvE) (a : P) (v : I) (op : T → T → T → Option T) : M := fun e => match v e with
  | .ok u e1 => (match a e1 with | .ok k => SRes.ofE (storeAt q (fun t => op t k u) e1) | _ => .bad)
  | .exc x e1 => .exc x e1 | .bad => .bad
def setF (c n : Nat) (u : T) : T → Option T
  | .ins .own c' ns ts => if c' = c ∧ ns.length < 1000 ∧ u.solid = true then some (.ins .own c' (fldPut ns ts n u).1 (fldPut ns ts n u).2) else none
  | _ => none
/-- o.f = v -/
def mFld (q : LvE) (c n : Nat) (a : I) : M := fun e => match a e with
  | .ok u e1 => SRes.ofE (storeAt q (setF c n u) e1)
  | .exc x e1 => .exc x e1 | .bad => .bad
/-- o.m(..): an instance of the class c that has no field m -/
def isIns (c m : Nat) : T → Bool | .ins _ c' ns _ => decide (c' = c) && !ns.contains m | _ => false
def isInsP (c m : Nat) : PRes → Bool | .ok t => isIns c m t | _ => false
def aConsI (c m : Nat) (p : P) (r : A) : A := fun e => if isInsP c m (p e) then aCons p r e else .bad
def iMeth (c m : Nat) (p : P) (f : List T → FRes) (io : List Nat) (as : List Ar) : I := fun e => if isInsP c m (p e) then iCall f io as e else .bad
/-- C(..) -/
def pMake (c : Nat) (m : List T → FRes) : List T → PRes := fun ts => match m (.ins .own c [] [] :: ts.map T.lend) with
  | .ret .non [o] => (match o.flag with | .own => .ok o | _ => .bad)
  | .exc x [_] => .exc x
  | _ => .bad
def T.fz (t : T) : Bool := match t.flag with | .frz => true | _ => false
/-- behind one turn: what was lent is as it was, one's own is as the turn left it -/
def keepU : Option T → Option T
  | some u => if u.solid then some u else none
  | none => none
def mergeE : Env → Env → Env
  | [], _ => []
  | _ :: e, [] => none :: mergeE e []
  | none :: e, _ :: e2 => none :: mergeE e e2
  | some t :: e, s :: e2 => (match t.flag with
    | .bor => some t
    | _ => keepU s) :: mergeE e e2
def iLcGo (g : Tg) (elt : I) : List T → Env → Option (List T × Env)
  | [], e => some ([], e)
  | t :: ts, e => match g.put t e with
    | none => none
    | some e1 => (match elt e1 with
      | .ok u e2 => if u.fz then (match iLcGo g elt ts (mergeE e e2) with | some (us, e3) => some (u :: us, e3) | none => none) else none
      | _ => none)
/-- [elt for g in s], the items of which change one's own things -/
def iLc (s : A) (g : Tg) (elt : I) (vs : List Nat) : I := fun e => match s e with
  | .ok ts => (match iLcGo g elt ts (wipeE e vs) with | some (us, e') => .ok (.lst .own us) e' | none => .bad)
  | .exc x => .exc x e | .bad => .bad
/-! what methods do -/
def line : Nat := 16777216
def uAppend : T → List T → Option (T × T)
  | .lst .own ts, [u] => if u.solid && decide (ts.length < line) then some (.lst .own (ts ++ [u]), .non) else none
  | _, _ => none
def uPop : T → List T → Option (T × T)
  | .lst .own ts, [] => (match ts.getLast? with | some u => some (.lst .own ts.dropLast, u) | none => none)
  | _, _ => none
def uClear : T → List T → Option (T × T)
  | .lst .own _, [] => some (.lst .own [], .non)
  | _, _ => none
def uReverse : T → List T → Option (T × T)
  | .lst .own ts, [] => some (.lst .own ts.reverse, .non)
  | _, _ => none
def setLst : T → T → T → Option T
  | .lst .own ts, .int k, u => if u.solid then (match ixOf ts.length k with | some j => some (.lst .own (ts.set j u)) | none => none) else none
  | _, _, _ => none
def setD {κ : Type} [DecidableEq κ] : List κ → List T → κ → T → List T
  | k :: ks, t :: ts, k0, u => (if k = k0 then u else t) :: setD ks ts k0 u
  | _, _, _, _ => []
def putD {κ : Type} [DecidableEq κ] (ks : List κ) (ts : List T) (k : κ) (u : T) : List κ × List T :=
  if ks.any (fun x => decide (x = k)) = true then (ks, setD ks ts k u) else (ks ++ [k], ts ++ [u])
def intsOf : List T → Option (List Int)
  | [] => some []
  | .int i :: ts => (match intsOf ts with | some is => some (i :: is) | none => none)
  | _ :: _ => none
def setDic : T → T → T → Option T
  | .dK .own ks ts, .int k, u => if u.fz && decide (ts.length < line) then some (.dK .own (putD ks ts k u).1 (putD ks ts k u).2) else none
  | .dT .own ks ts, .tup .frz us, u => (match intsOf us with
    | some k => if u.fz && decide (ts.length < line) then some (.dT .own (putD ks ts k u).1 (putD ks ts k u).2) else none
    | none => none)
  | _, _, _ => none
def setAny (t k u : T) : Option T := match t with | .lst .. => setLst t k u | _ => setDic t k u
/-! ### more values -/
def isNon : T → Bool | .non => true | _ => false
def gLen : T → PRes
  | .lst _ ts => .ok (.int ts.length)
  | .tup _ ts => .ok (.int ts.length)
  | .kon _ ts => .ok (.int ts.length)
  | _ => .bad
def gLen1 : List T → PRes | [t] => gLen t | _ => .bad
def look {κ : Type} [DecidableEq κ] : List κ → List T → κ → Option T
  | k :: ks, t :: ts, k0 => if k = k0 then some t else look ks ts k0
  | _, _, _ => none
/-- the value at a key; none: it can't be asked -/
def getD? : T → T → Option (Option T)
  | .dK f ks ts, .int k => some ((look ks ts k).map (T.of f))
  | .dT f ks ts, .tup .frz us => (match intsOf us with | some k => some ((look ks ts k).map (T.of f)) | none => none)
  | _, _ => none
/-- t[i] -/
def gIx : T → T → PRes
  | .lst f ts, .int k => (match ixOf ts.length k with | some j => ofO ((ts[j]?).map (T.of f)) | none => .bad)
  | .tup f ts, .int k => (match ixOf ts.length k with | some j => ofO ((ts[j]?).map (T.of f)) | none => .bad)
  | .kon _ ts, .int k => (match ixOf ts.length k with | some j => ofO ((ts[j]?).map (T.of .frz)) | none => .bad)
  | d, k => (match getD? d k with | some (some t) => .ok t | _ => .bad)
def isDic : T → Bool | .dK .. => true | .dT .. => true | _ => false
/-- d.get(k), d.get(k, x) -/
def gGet1 (d k : T) : PRes := match getD? d k with | some (some t) => .ok t | some none => .ok .non | none => .bad
def gGet2 (d k z : T) : PRes := match getD? d k with | some (some t) => .ok t | some none => if z.still then .ok z else .bad | none => .bad
def pGet1 (p q : P) : P := fun e => (p e).bind fun x => if isDic x then (q e).bind fun y => gGet1 x y else .bad
def pGet2 (p q r : P) : P := fun e => (p e).bind fun x => if isDic x then (q e).bind fun y => (r e).bind fun z => gGet2 x y z else .bad
/-- x in y -/
def inB (x y : T) : Option Bool := match y with
  | .lst _ ts => if shal 19 x && ts.all (shal 19) then some (ts.any fun t => eqB t x) else none
  | .tup _ ts => if shal 0 x && ts.all (shal 0) then some (ts.any fun t => eqB t x) else none
  | .kon _ ts => if shal 0 x && ts.all (shal 0) then some (ts.any fun t => eqB t x) else none
  | d => (match getD? d x with | some o => some o.isSome | none => none)
def gIn (x y : T) : PRes := match inB x y with | some b => .ok (.bl b) | none => .bad
def gNotIn (x y : T) : PRes := match inB x y with | some b => .ok (.bl (!b)) | none => .bad
/-- list(x) -/
def gList1 : List T → PRes
  | [.lst f ts] => if (ts.map (T.of f)).all T.solid then .ok (.lst .own (ts.map (T.of f))) else .bad
  | [.tup f ts] => if (ts.map (T.of f)).all T.solid then .ok (.lst .own (ts.map (T.of f))) else .bad
  | _ => .bad
def gMin2 : List T → PRes | [.int i, .int j] => .ok (.int (if j < i then j else i)) | _ => .bad
def gMax2 : List T → PRes | [.int i, .int j] => .ok (.int (if j > i then j else i)) | _ => .bad
def gInt1 : List T → PRes | [.int i] => .ok (.int i) | [.bl b] => .ok (.int (if b then 1 else 0)) | _ => .bad
/-- the built-in type of a value -/
def tyB : T → Option String
  | .non => some "NoneType" | .bl _ => some "bool" | .int _ => some "int" | .str _ => some "str"
  | .lst .. => some "list" | .tup .. => some "tuple" | .dK .. => some "dict" | .dT .. => some "dict" | _ => none
def subTy : String → String → Bool := fun a b => a == b || (a == "bool" && b == "int")
def gIsi (c : String) : T → PRes := fun t => match tyB t with | some a => .ok (.bl (subTy a c)) | none => .bad
/-- parts -/
def cut (n : Nat) (d : Nat) : Option Int → Nat
  | none => d
  | some v => if v < 0 then (v + (n : Int)).toNat else min v.toNat n
def cutL (ts : List T) (lo hi : Option Int) : List T := (ts.drop (cut ts.length 0 lo)).take (cut ts.length ts.length hi - cut ts.length 0 lo)
def gCut (lo hi : Option Int) : T → PRes
  | .lst f ts => if (ts.map (T.of f)).all T.solid then .ok (.lst .own (cutL (ts.map (T.of f)) lo hi)) else .bad
  | .kon true ts => if ts.all (shal 0) then .ok (.lst .own (cutL ts lo hi)) else .bad
  | _ => .bad
abbrev Po := Env → Option (Option Int)
def poN : Po := fun _ => some none
def poS (p : P) : Po := fun e => match p e with | .ok (.int i) => some (some i) | _ => none
def pCut (p : P) (lo hi : Po) : P := fun e => match p e with
  | .ok t => (match lo e, hi e with | some l, some h => gCut l h t | _, _ => .bad)
  | .exc x => .exc x | .bad => .bad
/-- where it stands first -/
def gIndex : T → List T → PRes
  | .lst _ ts, [u] => if shal 19 u && ts.all (shal 19) then (match ts.findIdx? (fun t => eqB t u) with | some j => .ok (.int j) | none => .bad) else .bad
  | _, _ => .bad
def pMth (g : T → List T → PRes) (p : P) (as : A) : P := fun e => match p e with
  | .ok t => (match as e with | .ok ts => g t ts | _ => .bad)
  | .exc x => .exc x | .bad => .bad
def gSum1 : List T → PRes
  | [.lst _ ts] => (match intsOf ts with | some is => .ok (.int is.sum) | none => .bad)
  | _ => .bad
/-- the keys that a method gives -/
def keysOf (f : List T → FRes) (o : T) : List T → Option (List Int)
  | [] => some []
  | u :: us => match gCall f [o, u] with
    | .ok (.int n) => (match keysOf f o us with | some ns => some (n :: ns) | none => none)
    | _ => none
def sortT (us : List T) (ks : List Int) : List T := ((us.zip ks).mergeSort fun p q => decide (p.2 ≤ q.2)).map (·.1)
/-- sorted(l, key=o.m) -/
def pSortM (c m : Nat) (f : List T → FRes) (pl po : P) : P := fun e => (pl e).bind fun x => (po e).bind fun o => match x with
  | .lst fl ts => if isIns c m o && (ts.map (T.of fl)).all T.solid then (match keysOf f o (ts.map (T.of fl)) with
    | some ks => .ok (.lst .own (sortT (ts.map (T.of fl)) ks))
    | none => .bad) else .bad
  | _ => .bad
def gIs2 : T → T → PRes := fun x y => match y with | .non => gIsN x | _ => .bad
def gIsNot2 : T → T → PRes := fun x y => match y with | .non => gNotN x | _ => .bad
end Cd

set_option Elab.async false
set_option linter.all false
set_option maxRecDepth 100000
/-! What a tree stands for in the heap. -/
namespace Cd
open PySem L2

/-- the names behind the numbers: classes, attributes -/
structure Nm where
  K : PySem.W.Frag
  cls : Nat → Addr
  att : Nat → Str

abbrev S (x : List Nat) : Str := ⟨x.toArray⟩
def okS (x : List Nat) : Bool := x.all fun c => decide (c < 1114112)

section
variable (N : Nm)
/-- a container at a, in the heap m -/
def fldsOf (ns : List Nat) (vs : List V) : List (Str × V) := (ns.map N.att).zip vs
/-- the exception object of a class -/
def ExH (c : Addr) (d : Option Addr) (a : Addr) : HO := .ext fun h => ∃ (oe : Obj) (xs : Array Value), h.get? a = some oe ∧ Zc (.ref c) d oe ∧ oe.data = .fields xs ∧ xs[1]? = some .none
mutual
def R (F B H : Hp) : T → V → List Addr → Prop
  | .non, v, fp => v = .non ∧ fp = []
  | .bl b, v, fp => v = .bl b ∧ fp = []
  | .int i, v, fp => v = .int i ∧ fp = []
  | .str x, v, fp => v = .str (S x) ∧ okS x = true ∧ fp = []
  | .lst f ts, v, fp => ∃ a vs, v = .ref a ∧ ts.length ≤ sizeLine ∧ match f with
    | .own => ∃ g, fp = a :: g ∧ H a = some (.lst vs) ∧ ts.all T.solid = true ∧ Rs F B H ts vs g
    | .frz => fp = [] ∧ F a = some (.lst vs) ∧ ∃ g, Rs F F F ts vs g
    | .bor => fp = [] ∧ B a = some (.lst vs) ∧ ∃ g, Rs F B B ts vs g
    | .tmp => fp = [] ∧ H a = some (.lst vs) ∧ ∃ g, Rs F H H ts vs g
  | .tup f ts, v, fp => ∃ a vs, v = .ref a ∧ ts.length ≤ sizeLine ∧ match f with
    | .own => ∃ g, fp = a :: g ∧ H a = some (.tup vs) ∧ ts.all T.solid = true ∧ Rs F B H ts vs g
    | .frz => fp = [] ∧ F a = some (.tup vs) ∧ ∃ g, Rs F F F ts vs g
    | .bor => fp = [] ∧ B a = some (.tup vs) ∧ ∃ g, Rs F B B ts vs g
    | .tmp => fp = [] ∧ H a = some (.tup vs) ∧ ∃ g, Rs F H H ts vs g
  | .dK f ks ts, v, fp => ∃ a vs, v = .ref a ∧ ks.length = ts.length ∧ match f with
    | .own => ∃ g, fp = a :: g ∧ H a = some (.dK ((ks.map Sum.inl).zip vs)) ∧ ts.all T.solid = true ∧ Rs F B H ts vs g
    | .frz => fp = [] ∧ F a = some (.dK ((ks.map Sum.inl).zip vs)) ∧ ∃ g, Rs F F F ts vs g
    | .bor => fp = [] ∧ B a = some (.dK ((ks.map Sum.inl).zip vs)) ∧ ∃ g, Rs F B B ts vs g
    | .tmp => fp = [] ∧ H a = some (.dK ((ks.map Sum.inl).zip vs)) ∧ ∃ g, Rs F H H ts vs g
  | .dT f ks ts, v, fp => ∃ a vs, v = .ref a ∧ ks.length = ts.length ∧ match f with
    | .own => ∃ g, fp = a :: g ∧ H a = some (.dT ((ks.map (List.map Sum.inl)).zip vs)) ∧ ts.all T.solid = true ∧ Rs F B H ts vs g
    | .frz => fp = [] ∧ F a = some (.dT ((ks.map (List.map Sum.inl)).zip vs)) ∧ ∃ g, Rs F F F ts vs g
    | .bor => fp = [] ∧ B a = some (.dT ((ks.map (List.map Sum.inl)).zip vs)) ∧ ∃ g, Rs F B B ts vs g
    | .tmp => fp = [] ∧ H a = some (.dT ((ks.map (List.map Sum.inl)).zip vs)) ∧ ∃ g, Rs F H H ts vs g
  | .ins f c ns ts, v, fp => ∃ a dx vs, v = .ref a ∧ ns.length = ts.length ∧ match f with
    | .own => ∃ g, fp = a :: dx :: g ∧ H a = some (.ins (N.cls c) dx (fldsOf N ns vs)) ∧ H dx = some (.own a) ∧ ts.all T.solid = true ∧ Rs F B H ts vs g
    | .frz => fp = [] ∧ F a = some (.ins (N.cls c) dx (fldsOf N ns vs)) ∧ ∃ g, Rs F F F ts vs g
    | .bor => fp = [] ∧ B a = some (.ins (N.cls c) dx (fldsOf N ns vs)) ∧ ∃ g, Rs F B B ts vs g
    | .tmp => fp = [] ∧ H a = some (.ins (N.cls c) dx (fldsOf N ns vs)) ∧ ∃ g, Rs F H H ts vs g
  | .kon l ts, v, fp => fp = [] ∧ ∃ a vs g, v = .ref a ∧ ts.length ≤ sizeLine ∧ (if l then SqL N.K F a vs else SqT N.K F a vs) ∧ Rs F F F ts vs g
  | .exc c ts, v, fp => fp = [] ∧ ∃ a, v = .ref a ∧ F a = some (ExH (N.cls c) none a) ∧ ts = []
def Rs (F B H : Hp) : List T → List V → List Addr → Prop
  | [], vs, fp => vs = [] ∧ fp = []
  | t :: ts, vs, fp => ∃ v vs' g1 g2, vs = v :: vs' ∧ fp = g1 ++ g2 ∧ R F B H t v g1 ∧ Rs F B H ts vs' g2
end
end

section
variable {N : Nm}
theorem Rs.len {F B H : Hp} : ∀ {ts : List T} {vs : List V} {fp : List Addr}, Rs N F B H ts vs fp → ts.length = vs.length
  | [], _, _, h => by obtain ⟨rfl, _⟩ := h; rfl
  | t :: ts, _, _, h => by
    obtain ⟨v, vs', g1, g2, rfl, rfl, _, h2⟩ := h
    simp [Rs.len h2]
theorem Same.seqT {K : PySem.W.Frag} {H H' : Hp} {a : Addr} {xs : List V} (e : Same H H') (h : SqT K H a xs) : SqT K H' a xs := by
  rcases h with (h | ⟨o, h⟩) | h
  · exact .inl (.inl (e _ _ h))
  · exact .inl (.inr ⟨o, e _ _ h⟩)
  · exact .inr h
mutual
/-- the heaps grow -/
theorem R.grow {F B H F' B' H' : Hp} (sf : Same F F') (sb : Same B B') (sh : Same H H') : ∀ {t : T} {v : V} {fp : List Addr}, R N F B H t v fp → R N F' B' H' t v fp
  | .non, _, _, h => h
  | .bl _, _, _, h => h
  | .int _, _, _, h => h
  | .str _, _, _, h => h
  | .lst f ts, _, _, h => by
    obtain ⟨a, vs, rfl, l, h⟩ := h
    refine ⟨a, vs, rfl, l, ?_⟩
    cases f with
    | own => obtain ⟨g, e, h1, h2, h3⟩ := h; exact ⟨g, e, sh _ _ h1, h2, h3.grow sf sb sh⟩
    | frz => obtain ⟨e, h1, g, h3⟩ := h; exact ⟨e, sf _ _ h1, g, h3.grow sf sf sf⟩
    | bor => obtain ⟨e, h1, g, h3⟩ := h; exact ⟨e, sb _ _ h1, g, h3.grow sf sb sb⟩
    | tmp => obtain ⟨e, h1, g, h3⟩ := h; exact ⟨e, sh _ _ h1, g, h3.grow sf sh sh⟩
  | .tup f ts, _, _, h => by
    obtain ⟨a, vs, rfl, l, h⟩ := h
    refine ⟨a, vs, rfl, l, ?_⟩
    cases f with
    | own => obtain ⟨g, e, h1, h2, h3⟩ := h; exact ⟨g, e, sh _ _ h1, h2, h3.grow sf sb sh⟩
    | frz => obtain ⟨e, h1, g, h3⟩ := h; exact ⟨e, sf _ _ h1, g, h3.grow sf sf sf⟩
    | bor => obtain ⟨e, h1, g, h3⟩ := h; exact ⟨e, sb _ _ h1, g, h3.grow sf sb sb⟩
    | tmp => obtain ⟨e, h1, g, h3⟩ := h; exact ⟨e, sh _ _ h1, g, h3.grow sf sh sh⟩
  | .dK f ks ts, _, _, h => by
    obtain ⟨a, vs, rfl, l, h⟩ := h
    refine ⟨a, vs, rfl, l, ?_⟩
    cases f with
    | own => obtain ⟨g, e, h1, h2, h3⟩ := h; exact ⟨g, e, sh _ _ h1, h2, h3.grow sf sb sh⟩
    | frz => obtain ⟨e, h1, g, h3⟩ := h; exact ⟨e, sf _ _ h1, g, h3.grow sf sf sf⟩
    | bor => obtain ⟨e, h1, g, h3⟩ := h; exact ⟨e, sb _ _ h1, g, h3.grow sf sb sb⟩
    | tmp => obtain ⟨e, h1, g, h3⟩ := h; exact ⟨e, sh _ _ h1, g, h3.grow sf sh sh⟩
  | .dT f ks ts, _, _, h => by
    obtain ⟨a, vs, rfl, l, h⟩ := h
    refine ⟨a, vs, rfl, l, ?_⟩
    cases f with
    | own => obtain ⟨g, e, h1, h2, h3⟩ := h; exact ⟨g, e, sh _ _ h1, h2, h3.grow sf sb sh⟩
    | frz => obtain ⟨e, h1, g, h3⟩ := h; exact ⟨e, sf _ _ h1, g, h3.grow sf sf sf⟩
    | bor => obtain ⟨e, h1, g, h3⟩ := h; exact ⟨e, sb _ _ h1, g, h3.grow sf sb sb⟩
    | tmp => obtain ⟨e, h1, g, h3⟩ := h; exact ⟨e, sh _ _ h1, g, h3.grow sf sh sh⟩
  | .ins f c ns ts, _, _, h => by
    obtain ⟨a, dx, vs, rfl, l, h⟩ := h
    refine ⟨a, dx, vs, rfl, l, ?_⟩
    cases f with
    | own => obtain ⟨g, e, h1, h0, h2, h3⟩ := h; exact ⟨g, e, sh _ _ h1, sh _ _ h0, h2, h3.grow sf sb sh⟩
    | frz => obtain ⟨e, h1, g, h3⟩ := h; exact ⟨e, sf _ _ h1, g, h3.grow sf sf sf⟩
    | bor => obtain ⟨e, h1, g, h3⟩ := h; exact ⟨e, sb _ _ h1, g, h3.grow sf sb sb⟩
    | tmp => obtain ⟨e, h1, g, h3⟩ := h; exact ⟨e, sh _ _ h1, g, h3.grow sf sh sh⟩
  | .kon l ts, _, _, h => by
    obtain ⟨e, a, vs, g, rfl, n, h1, h3⟩ := h
    refine ⟨e, a, vs, g, rfl, n, ?_, h3.grow sf sf sf⟩
    cases l with
    | true => exact sf.seq h1
    | false => exact Same.seqT sf h1
  | .exc c ts, _, _, h => by
    obtain ⟨e, a, rfl, h, h2⟩ := h
    exact ⟨e, a, rfl, sf _ _ h, h2⟩
theorem Rs.grow {F B H F' B' H' : Hp} (sf : Same F F') (sb : Same B B') (sh : Same H H') : ∀ {ts : List T} {vs : List V} {fp : List Addr}, Rs N F B H ts vs fp → Rs N F' B' H' ts vs fp
  | [], _, _, h => h
  | t :: ts, _, _, h => by
    obtain ⟨v, vs', g1, g2, rfl, rfl, h1, h2⟩ := h
    exact ⟨v, vs', g1, g2, rfl, rfl, h1.grow sf sb sh, h2.grow sf sb sh⟩
end
mutual
/-- what is solid, moved into other heaps -/
theorem R.move {F B H F' B' M : Hp} (sf : Same F F') : ∀ {t : T} {v : V} {fp : List Addr}, (∀ a ∈ fp, ∀ o, H a = some o → M a = some o) → t.solid = true → R N F B H t v fp → R N F' B' M t v fp
  | .non, _, _, _, _, h => h
  | .bl _, _, _, _, _, h => h
  | .int _, _, _, _, _, h => h
  | .str _, _, _, _, _, h => h
  | .lst f ts, _, _, sh, so, h => by
    obtain ⟨a, vs, rfl, l, h⟩ := h
    refine ⟨a, vs, rfl, l, ?_⟩
    cases f with
    | own => obtain ⟨g, rfl, h1, h2, h3⟩ := h; exact ⟨g, rfl, sh _ (List.mem_cons_self ..) _ h1, h2, Rs.move sf (fun b hb => sh b (List.mem_cons_of_mem _ hb)) h2 h3⟩
    | frz => obtain ⟨e, h1, g, h3⟩ := h; exact ⟨e, sf _ _ h1, g, h3.grow sf sf sf⟩
    | bor => cases so
    | tmp => cases so
  | .tup f ts, _, _, sh, so, h => by
    obtain ⟨a, vs, rfl, l, h⟩ := h
    refine ⟨a, vs, rfl, l, ?_⟩
    cases f with
    | own => obtain ⟨g, rfl, h1, h2, h3⟩ := h; exact ⟨g, rfl, sh _ (List.mem_cons_self ..) _ h1, h2, Rs.move sf (fun b hb => sh b (List.mem_cons_of_mem _ hb)) h2 h3⟩
    | frz => obtain ⟨e, h1, g, h3⟩ := h; exact ⟨e, sf _ _ h1, g, h3.grow sf sf sf⟩
    | bor => cases so
    | tmp => cases so
  | .dK f ks ts, _, _, sh, so, h => by
    obtain ⟨a, vs, rfl, l, h⟩ := h
    refine ⟨a, vs, rfl, l, ?_⟩
    cases f with
    | own => obtain ⟨g, rfl, h1, h2, h3⟩ := h; exact ⟨g, rfl, sh _ (List.mem_cons_self ..) _ h1, h2, Rs.move sf (fun b hb => sh b (List.mem_cons_of_mem _ hb)) h2 h3⟩
    | frz => obtain ⟨e, h1, g, h3⟩ := h; exact ⟨e, sf _ _ h1, g, h3.grow sf sf sf⟩
    | bor => cases so
    | tmp => cases so
  | .dT f ks ts, _, _, sh, so, h => by
    obtain ⟨a, vs, rfl, l, h⟩ := h
    refine ⟨a, vs, rfl, l, ?_⟩
    cases f with
    | own => obtain ⟨g, rfl, h1, h2, h3⟩ := h; exact ⟨g, rfl, sh _ (List.mem_cons_self ..) _ h1, h2, Rs.move sf (fun b hb => sh b (List.mem_cons_of_mem _ hb)) h2 h3⟩
    | frz => obtain ⟨e, h1, g, h3⟩ := h; exact ⟨e, sf _ _ h1, g, h3.grow sf sf sf⟩
    | bor => cases so
    | tmp => cases so
  | .ins f c ns ts, _, _, sh, so, h => by
    obtain ⟨a, dx, vs, rfl, l, h⟩ := h
    refine ⟨a, dx, vs, rfl, l, ?_⟩
    cases f with
    | own =>
      obtain ⟨g, rfl, h1, h0, h2, h3⟩ := h
      exact ⟨g, rfl, sh _ (List.mem_cons_self ..) _ h1, sh _ (List.mem_cons_of_mem _ (List.mem_cons_self ..)) _ h0, h2, Rs.move sf (fun b hb => sh b (List.mem_cons_of_mem _ (List.mem_cons_of_mem _ hb))) h2 h3⟩
    | frz => obtain ⟨e, h1, g, h3⟩ := h; exact ⟨e, sf _ _ h1, g, h3.grow sf sf sf⟩
    | bor => cases so
    | tmp => cases so
  | .kon l ts, _, _, _, _, h => by
    obtain ⟨e, a, vs, g, rfl, n, h1, h3⟩ := h
    refine ⟨e, a, vs, g, rfl, n, ?_, h3.grow sf sf sf⟩
    cases l with
    | true => exact sf.seq h1
    | false => exact Same.seqT sf h1
  | .exc c ts, _, _, _, _, h => by
    obtain ⟨e, a, rfl, h, h2⟩ := h
    exact ⟨e, a, rfl, sf _ _ h, h2⟩
theorem Rs.move {F B H F' B' M : Hp} (sf : Same F F') : ∀ {ts : List T} {vs : List V} {fp : List Addr}, (∀ a ∈ fp, ∀ o, H a = some o → M a = some o) → ts.all T.solid = true → Rs N F B H ts vs fp → Rs N F' B' M ts vs fp
  | [], _, _, _, _, h => h
  | t :: ts, _, _, sh, so, h => by
    obtain ⟨v, vs', g1, g2, rfl, rfl, h1, h2⟩ := h
    rw [List.all_cons, Bool.and_eq_true] at so
    exact ⟨v, vs', g1, g2, rfl, rfl, h1.move sf (fun b hb => sh b (List.mem_append_left _ hb)) so.1, Rs.move sf (fun b hb => sh b (List.mem_append_right _ hb)) so.2 h2⟩
end
end
end Cd

set_option Elab.async false
set_option linter.all false
set_option maxRecDepth 100000
namespace Cd
open PySem L2
section
variable {N : Nm} {F B H F' B' H' F1 H1 F2 H2 F0 : Hp}
theorem Same.rfl' {H : Hp} : Same H H := fun _ _ h => h
mutual
theorem R.cells : ∀ {t : T} {v : V} {fp : List Addr}, R N F B H t v fp → ∀ a ∈ fp, H a ≠ none
  | .non, _, _, h => by rw [h.2]; exact fun a z => nomatch z
  | .bl _, _, _, h => by rw [h.2]; exact fun a z => nomatch z
  | .int _, _, _, h => by rw [h.2]; exact fun a z => nomatch z
  | .str _, _, _, h => by rw [h.2.2]; exact fun a z => nomatch z
  | .lst f ts, _, _, h => by
    obtain ⟨a, vs, rfl, l, h⟩ := h
    cases f with
    | own => obtain ⟨g, rfl, h1, _, h3⟩ := h; exact List.forall_mem_cons.mpr ⟨by rw [h1]; simp, h3.cells⟩
    | frz => rw [h.1]; exact fun a z => nomatch z
    | bor => rw [h.1]; exact fun a z => nomatch z
    | tmp => rw [h.1]; exact fun a z => nomatch z
  | .tup f ts, _, _, h => by
    obtain ⟨a, vs, rfl, l, h⟩ := h
    cases f with
    | own => obtain ⟨g, rfl, h1, _, h3⟩ := h; exact List.forall_mem_cons.mpr ⟨by rw [h1]; simp, h3.cells⟩
    | frz => rw [h.1]; exact fun a z => nomatch z
    | bor => rw [h.1]; exact fun a z => nomatch z
    | tmp => rw [h.1]; exact fun a z => nomatch z
  | .dK f ks ts, _, _, h => by
    obtain ⟨a, vs, rfl, _, h⟩ := h
    cases f with
    | own => obtain ⟨g, rfl, h1, _, h3⟩ := h; exact List.forall_mem_cons.mpr ⟨by rw [h1]; simp, h3.cells⟩
    | frz => rw [h.1]; exact fun a z => nomatch z
    | bor => rw [h.1]; exact fun a z => nomatch z
    | tmp => rw [h.1]; exact fun a z => nomatch z
  | .dT f ks ts, _, _, h => by
    obtain ⟨a, vs, rfl, _, h⟩ := h
    cases f with
    | own => obtain ⟨g, rfl, h1, _, h3⟩ := h; exact List.forall_mem_cons.mpr ⟨by rw [h1]; simp, h3.cells⟩
    | frz => rw [h.1]; exact fun a z => nomatch z
    | bor => rw [h.1]; exact fun a z => nomatch z
    | tmp => rw [h.1]; exact fun a z => nomatch z
  | .ins f c ns ts, _, _, h => by
    obtain ⟨a, dx, vs, rfl, _, h⟩ := h
    cases f with
    | own => obtain ⟨g, rfl, h1, h0, _, h3⟩ := h; exact List.forall_mem_cons.mpr ⟨by rw [h1]; simp, List.forall_mem_cons.mpr ⟨by rw [h0]; simp, h3.cells⟩⟩
    | frz => rw [h.1]; exact fun a z => nomatch z
    | bor => rw [h.1]; exact fun a z => nomatch z
    | tmp => rw [h.1]; exact fun a z => nomatch z
  | .exc c ts, _, _, h => by rw [h.1]; exact fun a z => nomatch z
  | .kon l ts, _, _, h => by rw [h.1]; exact fun a z => nomatch z
theorem Rs.cells : ∀ {ts : List T} {vs : List V} {fp : List Addr}, Rs N F B H ts vs fp → ∀ a ∈ fp, H a ≠ none
  | [], _, _, h => by rw [h.2]; exact fun a z => nomatch z
  | t :: ts, _, _, h => by
    obtain ⟨v, vs', g1, g2, rfl, rfl, h1, h2⟩ := h
    exact fun a ha => (List.mem_append.mp ha).elim (h1.cells a) (h2.cells a)
end

/-- seen as a container of the flag g would show it: own cells in M -/
theorem R.as {M : Hp} {t : T} {v : V} {fp : List Addr} (h : R N F B M t v fp) :
    (F = M → B = M → R N F B' H (t.fl1 fun _ => .frz) v []) ∧
    (B = M → R N F M H (t.fl1 (Fl.under .bor)) v []) ∧
    (Same B M → R N F B' M (t.fl1 (Fl.under .tmp)) v []) := by
  cases t with
  | non => exact ⟨fun _ _ => ⟨h.1, rfl⟩, fun _ => ⟨h.1, rfl⟩, fun _ => ⟨h.1, rfl⟩⟩
  | bl b => exact ⟨fun _ _ => ⟨h.1, rfl⟩, fun _ => ⟨h.1, rfl⟩, fun _ => ⟨h.1, rfl⟩⟩
  | int b => exact ⟨fun _ _ => ⟨h.1, rfl⟩, fun _ => ⟨h.1, rfl⟩, fun _ => ⟨h.1, rfl⟩⟩
  | str b => exact ⟨fun _ _ => ⟨h.1, h.2.1, rfl⟩, fun _ => ⟨h.1, h.2.1, rfl⟩, fun _ => ⟨h.1, h.2.1, rfl⟩⟩
  | lst f ts =>
    obtain ⟨a, vs, rfl, l, h⟩ := h
    cases f with
    | own =>
      obtain ⟨g, rfl, h1, _, h3⟩ := h
      exact ⟨fun e1 e2 => ⟨a, vs, rfl, l, rfl, by subst e1; exact h1, g, by subst e1; subst e2; exact h3⟩, fun e => ⟨a, vs, rfl, l, rfl, h1, g, by subst e; exact h3⟩, fun s => ⟨a, vs, rfl, l, rfl, h1, g, h3.grow Same.rfl' s Same.rfl'⟩⟩
    | frz => obtain ⟨_, h1, g, h3⟩ := h; exact ⟨fun _ _ => ⟨a, vs, rfl, l, rfl, h1, g, h3⟩, fun _ => ⟨a, vs, rfl, l, rfl, h1, g, h3⟩, fun _ => ⟨a, vs, rfl, l, rfl, h1, g, h3⟩⟩
    | bor => obtain ⟨_, h1, g, h3⟩ := h; exact ⟨fun e1 e2 => ⟨a, vs, rfl, l, rfl, by subst e1; subst e2; exact h1, g, by subst e1; subst e2; exact h3⟩, fun e => ⟨a, vs, rfl, l, rfl, by subst e; exact h1, g, by subst e; exact h3⟩, fun s => ⟨a, vs, rfl, l, rfl, s _ _ h1, g, h3.grow Same.rfl' s s⟩⟩
    | tmp => obtain ⟨_, h1, g, h3⟩ := h; exact ⟨fun e1 e2 => ⟨a, vs, rfl, l, rfl, by subst e1; exact h1, g, by subst e1; exact h3⟩, fun e => ⟨a, vs, rfl, l, rfl, h1, g, h3⟩, fun s => ⟨a, vs, rfl, l, rfl, h1, g, h3⟩⟩
  | tup f ts =>
    obtain ⟨a, vs, rfl, l, h⟩ := h
    cases f with
    | own =>
      obtain ⟨g, rfl, h1, _, h3⟩ := h
      exact ⟨fun e1 e2 => ⟨a, vs, rfl, l, rfl, by subst e1; exact h1, g, by subst e1; subst e2; exact h3⟩, fun e => ⟨a, vs, rfl, l, rfl, h1, g, by subst e; exact h3⟩, fun s => ⟨a, vs, rfl, l, rfl, h1, g, h3.grow Same.rfl' s Same.rfl'⟩⟩
    | frz => obtain ⟨_, h1, g, h3⟩ := h; exact ⟨fun _ _ => ⟨a, vs, rfl, l, rfl, h1, g, h3⟩, fun _ => ⟨a, vs, rfl, l, rfl, h1, g, h3⟩, fun _ => ⟨a, vs, rfl, l, rfl, h1, g, h3⟩⟩
    | bor => obtain ⟨_, h1, g, h3⟩ := h; exact ⟨fun e1 e2 => ⟨a, vs, rfl, l, rfl, by subst e1; subst e2; exact h1, g, by subst e1; subst e2; exact h3⟩, fun e => ⟨a, vs, rfl, l, rfl, by subst e; exact h1, g, by subst e; exact h3⟩, fun s => ⟨a, vs, rfl, l, rfl, s _ _ h1, g, h3.grow Same.rfl' s s⟩⟩
    | tmp => obtain ⟨_, h1, g, h3⟩ := h; exact ⟨fun e1 e2 => ⟨a, vs, rfl, l, rfl, by subst e1; exact h1, g, by subst e1; exact h3⟩, fun e => ⟨a, vs, rfl, l, rfl, h1, g, h3⟩, fun s => ⟨a, vs, rfl, l, rfl, h1, g, h3⟩⟩
  | dK f ks ts =>
    obtain ⟨a, vs, rfl, l, h⟩ := h
    cases f with
    | own =>
      obtain ⟨g, rfl, h1, _, h3⟩ := h
      exact ⟨fun e1 e2 => ⟨a, vs, rfl, l, rfl, by subst e1; exact h1, g, by subst e1; subst e2; exact h3⟩, fun e => ⟨a, vs, rfl, l, rfl, h1, g, by subst e; exact h3⟩, fun s => ⟨a, vs, rfl, l, rfl, h1, g, h3.grow Same.rfl' s Same.rfl'⟩⟩
    | frz => obtain ⟨_, h1, g, h3⟩ := h; exact ⟨fun _ _ => ⟨a, vs, rfl, l, rfl, h1, g, h3⟩, fun _ => ⟨a, vs, rfl, l, rfl, h1, g, h3⟩, fun _ => ⟨a, vs, rfl, l, rfl, h1, g, h3⟩⟩
    | bor => obtain ⟨_, h1, g, h3⟩ := h; exact ⟨fun e1 e2 => ⟨a, vs, rfl, l, rfl, by subst e1; subst e2; exact h1, g, by subst e1; subst e2; exact h3⟩, fun e => ⟨a, vs, rfl, l, rfl, by subst e; exact h1, g, by subst e; exact h3⟩, fun s => ⟨a, vs, rfl, l, rfl, s _ _ h1, g, h3.grow Same.rfl' s s⟩⟩
    | tmp => obtain ⟨_, h1, g, h3⟩ := h; exact ⟨fun e1 e2 => ⟨a, vs, rfl, l, rfl, by subst e1; exact h1, g, by subst e1; exact h3⟩, fun e => ⟨a, vs, rfl, l, rfl, h1, g, h3⟩, fun s => ⟨a, vs, rfl, l, rfl, h1, g, h3⟩⟩
  | dT f ks ts =>
    obtain ⟨a, vs, rfl, l, h⟩ := h
    cases f with
    | own =>
      obtain ⟨g, rfl, h1, _, h3⟩ := h
      exact ⟨fun e1 e2 => ⟨a, vs, rfl, l, rfl, by subst e1; exact h1, g, by subst e1; subst e2; exact h3⟩, fun e => ⟨a, vs, rfl, l, rfl, h1, g, by subst e; exact h3⟩, fun s => ⟨a, vs, rfl, l, rfl, h1, g, h3.grow Same.rfl' s Same.rfl'⟩⟩
    | frz => obtain ⟨_, h1, g, h3⟩ := h; exact ⟨fun _ _ => ⟨a, vs, rfl, l, rfl, h1, g, h3⟩, fun _ => ⟨a, vs, rfl, l, rfl, h1, g, h3⟩, fun _ => ⟨a, vs, rfl, l, rfl, h1, g, h3⟩⟩
    | bor => obtain ⟨_, h1, g, h3⟩ := h; exact ⟨fun e1 e2 => ⟨a, vs, rfl, l, rfl, by subst e1; subst e2; exact h1, g, by subst e1; subst e2; exact h3⟩, fun e => ⟨a, vs, rfl, l, rfl, by subst e; exact h1, g, by subst e; exact h3⟩, fun s => ⟨a, vs, rfl, l, rfl, s _ _ h1, g, h3.grow Same.rfl' s s⟩⟩
    | tmp => obtain ⟨_, h1, g, h3⟩ := h; exact ⟨fun e1 e2 => ⟨a, vs, rfl, l, rfl, by subst e1; exact h1, g, by subst e1; exact h3⟩, fun e => ⟨a, vs, rfl, l, rfl, h1, g, h3⟩, fun s => ⟨a, vs, rfl, l, rfl, h1, g, h3⟩⟩
  | ins f c ns ts =>
    obtain ⟨a, dx, vs, rfl, l, h⟩ := h
    cases f with
    | own =>
      obtain ⟨g, rfl, h1, _, _, h3⟩ := h
      exact ⟨fun e1 e2 => ⟨a, dx, vs, rfl, l, rfl, by subst e1; exact h1, g, by subst e1; subst e2; exact h3⟩, fun e => ⟨a, dx, vs, rfl, l, rfl, h1, g, by subst e; exact h3⟩, fun s => ⟨a, dx, vs, rfl, l, rfl, h1, g, h3.grow Same.rfl' s Same.rfl'⟩⟩
    | frz => obtain ⟨_, h1, g, h3⟩ := h; exact ⟨fun _ _ => ⟨a, dx, vs, rfl, l, rfl, h1, g, h3⟩, fun _ => ⟨a, dx, vs, rfl, l, rfl, h1, g, h3⟩, fun _ => ⟨a, dx, vs, rfl, l, rfl, h1, g, h3⟩⟩
    | bor => obtain ⟨_, h1, g, h3⟩ := h; exact ⟨fun e1 e2 => ⟨a, dx, vs, rfl, l, rfl, by subst e1; subst e2; exact h1, g, by subst e1; subst e2; exact h3⟩, fun e => ⟨a, dx, vs, rfl, l, rfl, by subst e; exact h1, g, by subst e; exact h3⟩, fun s => ⟨a, dx, vs, rfl, l, rfl, s _ _ h1, g, h3.grow Same.rfl' s s⟩⟩
    | tmp => obtain ⟨_, h1, g, h3⟩ := h; exact ⟨fun e1 e2 => ⟨a, dx, vs, rfl, l, rfl, by subst e1; exact h1, g, by subst e1; exact h3⟩, fun e => ⟨a, dx, vs, rfl, l, rfl, h1, g, h3⟩, fun s => ⟨a, dx, vs, rfl, l, rfl, h1, g, h3⟩⟩
  | exc c ts => exact ⟨fun _ _ => ⟨rfl, h.2⟩, fun _ => ⟨rfl, h.2⟩, fun _ => ⟨rfl, h.2⟩⟩
  | kon l ts => exact ⟨fun _ _ => ⟨rfl, h.2⟩, fun _ => ⟨rfl, h.2⟩, fun _ => ⟨rfl, h.2⟩⟩
theorem R.asF {M : Hp} {t : T} {v : V} {fp : List Addr} (h : R N M M M t v fp) (B' H' : Hp) : R N M B' H' (t.fl1 fun _ => .frz) v [] := (h.as (B' := B') (H := H')).1 rfl rfl
theorem R.asB {M : Hp} {t : T} {v : V} {fp : List Addr} (h : R N F M M t v fp) (H' : Hp) : R N F M H' (t.fl1 (Fl.under .bor)) v [] := (h.as (B' := M) (H := H')).2.1 rfl
theorem R.asT {M : Hp} {t : T} {v : V} {fp : List Addr} (h : R N F B M t v fp) (s : Same B M) (B' : Hp) : R N F B' M (t.fl1 (Fl.under .tmp)) v [] := (h.as (B' := B') (H := M)).2.2 s
theorem R.nofp {t : T} {v : V} {fp : List Addr} (h : R N F B H t v fp) (hf : t.flag ≠ .own) : fp = [] := by
  cases t with
  | non => exact h.2
  | bl b => exact h.2
  | int b => exact h.2
  | str b => exact h.2.2
  | lst f ts => obtain ⟨a, vs, rfl, l, h⟩ := h; cases f with | own => exact absurd rfl hf | frz => exact h.1 | bor => exact h.1 | tmp => exact h.1
  | tup f ts => obtain ⟨a, vs, rfl, l, h⟩ := h; cases f with | own => exact absurd rfl hf | frz => exact h.1 | bor => exact h.1 | tmp => exact h.1
  | dK f ks ts => obtain ⟨a, vs, rfl, _, h⟩ := h; cases f with | own => exact absurd rfl hf | frz => exact h.1 | bor => exact h.1 | tmp => exact h.1
  | dT f ks ts => obtain ⟨a, vs, rfl, _, h⟩ := h; cases f with | own => exact absurd rfl hf | frz => exact h.1 | bor => exact h.1 | tmp => exact h.1
  | ins f c ks ts => obtain ⟨a, dx, vs, rfl, _, h⟩ := h; cases f with | own => exact absurd rfl hf | frz => exact h.1 | bor => exact h.1 | tmp => exact h.1
  | exc c ts => exact h.1
  | kon l ts => exact h.1
theorem T.fl1_id {g : Fl → Fl} {t : T} (h : g t.flag = t.flag) : t.fl1 g = t := by
  cases t <;> simp_all [T.fl1, T.flag]
theorem T.fl1_eq {g g' : Fl → Fl} {t : T} (h : g t.flag = g' t.flag) : t.fl1 g = t.fl1 g' := by
  cases t <;> simp_all [T.fl1, T.flag]
theorem R.view {t : T} {v : V} {fp : List Addr} (s : Same B H) (h : R N F B H t v fp) : R N F B H t.view v [] := by
  cases e : t.flag with
  | own => rw [show t.view = t.fl1 (Fl.under .tmp) from T.fl1_eq (by rw [e]; rfl)]; exact h.asT s _
  | tmp => rw [show t.view = t.fl1 (Fl.under .tmp) from T.fl1_eq (by rw [e]; rfl)]; exact h.asT s _
  | frz => rw [show t.view = t from T.fl1_id (by rw [e]; rfl)]; have := h.nofp (by rw [e]; decide); subst this; exact h
  | bor => rw [show t.view = t from T.fl1_id (by rw [e]; rfl)]; have := h.nofp (by rw [e]; decide); subst this; exact h
/-- lent to a callee whose ground holds all of H -/
theorem R.lend {t : T} {v : V} {fp : List Addr} {M : Hp} (s : Same B H) (h : R N F B H t v fp) : R N F H M t.lend v [] := by
  have h' : R N F H H t v fp := h.grow Same.rfl' s Same.rfl'
  cases e : t.flag with
  | frz => rw [show t.lend = t.fl1 (fun f => Fl.under .bor f) from T.fl1_eq (by rw [e]; rfl)]; exact h'.asB _
  | own => rw [show t.lend = t.fl1 (fun f => Fl.under .bor f) from T.fl1_eq (by rw [e]; rfl)]; exact h'.asB _
  | tmp => rw [show t.lend = t.fl1 (fun f => Fl.under .bor f) from T.fl1_eq (by rw [e]; rfl)]; exact h'.asB _
  | bor => rw [show t.lend = t.fl1 (fun f => Fl.under .bor f) from T.fl1_eq (by rw [e]; rfl)]; exact h'.asB _
theorem T.solid_iff {t : T} : t.solid = true ↔ t.flag = .own ∨ t.flag = .frz := by
  unfold T.solid; cases t.flag <;> simp
theorem T.nt_iff {t : T} : t.nt = true ↔ t.flag ≠ .tmp := by
  unfold T.nt; cases t.flag <;> simp
/-- come back from a callee whose ground was G -/
theorem R.back {t : T} {v : V} {fp : List Addr} {G : Hp} (s : Same G H) (h : R N F G H t v fp) : R N F B H t.back v fp := by
  cases e : t.flag with
  | own => rw [show t.back = t from T.fl1_id (by rw [e]; rfl)]; exact h.move Same.rfl' (fun _ _ _ q => q) (T.solid_iff.mpr (.inl e))
  | frz => rw [show t.back = t from T.fl1_id (by rw [e]; rfl)]; have q := h.nofp (by rw [e]; decide); subst q; exact h.move Same.rfl' (fun _ z => nomatch z) (T.solid_iff.mpr (.inr e))
  | tmp => rw [show t.back = t.fl1 (Fl.under .tmp) from T.fl1_eq (by rw [e]; rfl)]; have q := h.nofp (by rw [e]; decide); subst q; exact h.asT s _
  | bor => rw [show t.back = t.fl1 (Fl.under .tmp) from T.fl1_eq (by rw [e]; rfl)]; have q := h.nofp (by rw [e]; decide); subst q; exact h.asT s _
/-- outside its cells the heap may change -/
theorem R.stay {t : T} {v : V} {fp : List Addr} (nt : t.nt = true) (sf : Same F F') (sb : Same B B') (k : ∀ a ∈ fp, ∀ o, H a = some o → H' a = some o) (h : R N F B H t v fp) : R N F' B' H' t v fp := by
  cases e : t.flag with
  | own => exact h.move sf k (T.solid_iff.mpr (.inl e))
  | frz => exact h.move sf k (T.solid_iff.mpr (.inr e))
  | tmp => exact absurd e (T.nt_iff.mp nt)
  | bor =>
    have q := h.nofp (by rw [e]; decide)
    subst q
    have h2 : R N F' B' H' (t.fl1 (Fl.under .bor)) v [] := by
      cases t with
      | lst f ts => cases f <;> first | (cases e; done) | (obtain ⟨a, vs, rfl, l, _, h1, g, h3⟩ := h; exact ⟨a, vs, rfl, l, rfl, sb _ _ h1, g, h3.grow sf sb sb⟩)
      | tup f ts => cases f <;> first | (cases e; done) | (obtain ⟨a, vs, rfl, l, _, h1, g, h3⟩ := h; exact ⟨a, vs, rfl, l, rfl, sb _ _ h1, g, h3.grow sf sb sb⟩)
      | dK f ks ts => cases f <;> first | (cases e; done) | (obtain ⟨a, vs, rfl, l, _, h1, g, h3⟩ := h; exact ⟨a, vs, rfl, l, rfl, sb _ _ h1, g, h3.grow sf sb sb⟩)
      | dT f ks ts => cases f <;> first | (cases e; done) | (obtain ⟨a, vs, rfl, l, _, h1, g, h3⟩ := h; exact ⟨a, vs, rfl, l, rfl, sb _ _ h1, g, h3.grow sf sb sb⟩)
      | ins f c ks ts => cases f <;> first | (cases e; done) | (obtain ⟨a, dx, vs, rfl, l, _, h1, g, h3⟩ := h; exact ⟨a, dx, vs, rfl, l, rfl, sb _ _ h1, g, h3.grow sf sb sb⟩)
      | non => cases e
      | bl _ => cases e
      | int _ => cases e
      | str _ => cases e
      | exc _ _ => cases e
      | kon _ _ => cases e
    rw [show t.fl1 (Fl.under .bor) = t from T.fl1_id (by rw [e]; rfl)] at h2
    exact h2

/-! ### the items of a sequence -/
theorem Rs.get {ts : List T} : ∀ {vs : List V} {fp : List Addr} {i : Nat} {t : T}, Rs N F B H ts vs fp → ts[i]? = some t → ∃ v g, vs[i]? = some v ∧ R N F B H t v g := by
  induction ts with
  | nil => intro vs fp i t _ h; simp at h
  | cons u us ih =>
    intro vs fp i t h e
    obtain ⟨v, vs', g1, g2, rfl, rfl, h1, h2⟩ := h
    cases i with
    | zero => simp at e; subst e; exact ⟨v, g1, by simp, h1⟩
    | succ i => obtain ⟨w, g, e1, r⟩ := ih h2 (by simpa using e); exact ⟨w, g, by simpa using e1, r⟩
/-- all items, each looked at -/
theorem Rs.map {g : T → T} {M1 M2 M3 : Hp} (k : ∀ t v fp, R N F B H t v fp → R N M1 M2 M3 (g t) v []) : ∀ {ts : List T} {vs : List V} {fp : List Addr}, Rs N F B H ts vs fp → Rs N M1 M2 M3 (ts.map g) vs []
  | [], _, _, h => ⟨h.1, rfl⟩
  | t :: ts, _, _, h => by
    obtain ⟨v, vs', g1, g2, rfl, rfl, h1, h2⟩ := h
    exact ⟨v, vs', [], [], rfl, rfl, k _ _ _ h1, Rs.map k h2⟩
/-- a list that may be read, its items as they are seen -/
theorem R.list {f : Fl} {ts : List T} {v : V} {fp : List Addr} (sf : Same F H) (sb : Same B H) (h : R N F B H (.lst f ts) v fp) : ∃ a vs, v = .ref a ∧ ts.length ≤ sizeLine ∧ H a = some (.lst vs) ∧ Rs N F B H (ts.map (T.of f)) vs [] := by
  obtain ⟨a, vs, rfl, l, h⟩ := h
  refine ⟨a, vs, rfl, l, ?_⟩
  cases f with
  | own => obtain ⟨g, rfl, h1, _, h3⟩ := h; exact ⟨h1, Rs.map (fun t v fp r => r.asT sb _) h3⟩
  | frz => obtain ⟨_, h1, g, h3⟩ := h; exact ⟨sf _ _ h1, Rs.map (fun t v fp r => by rw [show T.of .frz t = t.fl1 (fun _ => .frz) from T.fl1_eq (by cases t.flag <;> rfl)]; exact r.asF _ _) h3⟩
  | bor => obtain ⟨_, h1, g, h3⟩ := h; exact ⟨sb _ _ h1, Rs.map (fun t v fp r => r.asB _) h3⟩
  | tmp => obtain ⟨_, h1, g, h3⟩ := h; exact ⟨h1, Rs.map (fun t v fp r => r.asT Same.rfl' _) h3⟩
theorem R.tuple {f : Fl} {ts : List T} {v : V} {fp : List Addr} (sf : Same F H) (sb : Same B H) (h : R N F B H (.tup f ts) v fp) : ∃ a vs, v = .ref a ∧ ts.length ≤ sizeLine ∧ H a = some (.tup vs) ∧ Rs N F B H (ts.map (T.of f)) vs [] := by
  obtain ⟨a, vs, rfl, l, h⟩ := h
  refine ⟨a, vs, rfl, l, ?_⟩
  cases f with
  | own => obtain ⟨g, rfl, h1, _, h3⟩ := h; exact ⟨h1, Rs.map (fun t v fp r => r.asT sb _) h3⟩
  | frz => obtain ⟨_, h1, g, h3⟩ := h; exact ⟨sf _ _ h1, Rs.map (fun t v fp r => by rw [show T.of .frz t = t.fl1 (fun _ => .frz) from T.fl1_eq (by cases t.flag <;> rfl)]; exact r.asF _ _) h3⟩
  | bor => obtain ⟨_, h1, g, h3⟩ := h; exact ⟨sb _ _ h1, Rs.map (fun t v fp r => r.asB _) h3⟩
  | tmp => obtain ⟨_, h1, g, h3⟩ := h; exact ⟨h1, Rs.map (fun t v fp r => r.asT Same.rfl' _) h3⟩
end
end Cd

set_option Elab.async false
set_option linter.all false
set_option maxRecDepth 100000
/-! What it is that a reading does what a function of the slots says. -/
namespace Cd
open PySem L2

def SlOk (N : Nm) (F B H : Hp) : Option T → Option V → List Addr → Prop
  | none, _, fp => fp = []
  | some t, x, fp => ∃ v, x = some v ∧ t.nt = true ∧ R N F B H t v fp
def SlsOk (N : Nm) (F B H : Hp) : Env → St → List Addr → Prop
  | [], σ, fp => σ = [] ∧ fp = []
  | s :: e, σ, fp => ∃ x σ' g1 g2, σ = x :: σ' ∧ fp = g1 ++ g2 ∧ SlOk N F B H s x g1 ∧ SlsOk N F B H e σ' g2

/-- the slots hold env: F what is frozen, B what stands still (the callers'), F0 what was frozen at the entry, fp one's own cells -/
structure Sim (N : Nm) (F0 B F H : Hp) (env : Env) (σ : St) (fp : List Addr) : Prop where
  f0 : Same F0 F
  fh : Same F H
  bh : Same B H
  fr : ∀ a, F a ≠ none → F0 a ≠ none ∨ B a = none
  sl : SlsOk N F B H env σ fp
  nd : fp.Nodup
  out : ∀ a ∈ fp, F a = none ∧ B a = none

structure Ext (F H F' H' : Hp) : Prop where
  f : Same F F'
  h : Same H H'
  fh : Same F' H'
  new : ∀ a, F' a ≠ none → F a ≠ none ∨ H a = none

structure Val (N : Nm) (B H F' H' : Hp) (r : T) (v : V) (g : List Addr) : Prop where
  r : R N F' B H' r v g
  nd : g.Nodup
  new : ∀ a ∈ g, H a = none ∧ F' a = none

def ExR (N : Nm) (F : Hp) (x : Ex) (d : Option Addr) : Prop := match x.ts with
  | [] => d = none
  | ts => ∃ dd vs g, d = some dd ∧ F dd = some (.xd vs) ∧ Rs N F F F ts (vs.map (·.2)) g

/-- an exception's wish, by what is frozen -/
abbrev WR := Value → Option Addr → Hp → Prop
def Wants (N : Nm) (W : WR) (F B H : Hp) (res : PRes) (Q : VK) : Prop := match res with
  | .ok r => ∀ F' H' v g, Ext F H F' H' → Val N B H F' H' r v g → Q v H'
  | .exc x => ∀ F' H' d, Ext F H F' H' → ExR N F' x d → W (.ref (N.cls x.c)) d H'
  | .bad => False
def WantsL (N : Nm) (W : WR) (F B H : Hp) (res : LRes) (Q : List V → Hp → Prop) : Prop := match res with
  | .ok rs => ∀ F' H' vs g, Ext F H F' H' → Rs N F' B H' rs vs g → g.Nodup → (∀ a ∈ g, H a = none ∧ F' a = none) → Q vs H'
  | .exc x => ∀ F' H' d, Ext F H F' H' → ExR N F' x d → W (.ref (N.cls x.c)) d H'
  | .bad => False

/-- the reading of an expression does what p says -/
def DoesP (N : Nm) (W : WX) (t : TE) (p : P) : Prop := ∀ F0 B F H env σ fp Q, Sim N F0 B F H env σ fp → Wants N (fun c d H => W c d σ H) F B H (p env) Q → t σ H Q
def DoesA (N : Nm) (W : WX) (t : TA) (p : A) : Prop := ∀ F0 B F H env σ fp Q, Sim N F0 B F H env σ fp → WantsL N (fun c d H => W c d σ H) F B H (p env) Q → t σ H Q
def DoesT (N : Nm) (W : WX) (t : TT) (p : P) : Prop := ∀ F0 B F H env σ fp Q, Sim N F0 B F H env σ fp → Wants N (fun c d H => W c d σ H) F B H (p env) (fun v H' => ∃ b, v = .bl b ∧ Q b H') → t σ H Q

section
variable {N : Nm} {W : WX} {F B H F' B' H' F1 H1 F2 H2 F0 : Hp} {env : Env} {σ : St} {fp : List Addr}
theorem Ext.refl (s : Same F H) : Ext F H F H := ⟨Same.rfl', Same.rfl', s, fun _ h => .inl h⟩
theorem Ext.trans (a : Ext F H F1 H1) (b : Ext F1 H1 F2 H2) : Ext F H F2 H2 := ⟨a.f.trans b.f, a.h.trans b.h, b.fh, fun c h => by
  rcases b.new c h with q | q
  · exact a.new c q
  · exact .inr (a.h.free q)⟩
theorem none_of_not {o : Option HO} (h : ¬ o ≠ none) : o = none := by cases o <;> simp_all
theorem Ext.stays (e : Ext F H F' H') {a : Addr} (h1 : F a = none) (h2 : H a ≠ none) : F' a = none := by
  refine none_of_not fun q => ?_
  rcases e.new a q with z | z
  · exact z h1
  · exact h2 z
theorem SlOk.grow (sf : Same F F') (sb : Same B B') (sh : Same H H') : ∀ {s : Option T} {x : Option V} {g : List Addr}, SlOk N F B H s x g → SlOk N F' B' H' s x g
  | none, _, _, h => h
  | some t, _, _, ⟨v, e, nt, r⟩ => ⟨v, e, nt, r.grow sf sb sh⟩
theorem SlsOk.grow (sf : Same F F') (sb : Same B B') (sh : Same H H') : ∀ {e : Env} {σ : St} {g : List Addr}, SlsOk N F B H e σ g → SlsOk N F' B' H' e σ g
  | [], _, _, h => h
  | _ :: _, _, _, ⟨x, σ', g1, g2, e1, e2, h1, h2⟩ => ⟨x, σ', g1, g2, e1, e2, h1.grow sf sb sh, h2.grow sf sb sh⟩
theorem SlOk.stay (sf : Same F F') (sb : Same B B') : ∀ {s : Option T} {x : Option V} {g : List Addr}, (∀ a ∈ g, ∀ o, H a = some o → H' a = some o) → SlOk N F B H s x g → SlOk N F' B' H' s x g
  | none, _, _, _, h => h
  | some t, _, _, k, ⟨v, e, nt, r⟩ => ⟨v, e, nt, r.stay nt sf sb k⟩
theorem SlsOk.stay (sf : Same F F') (sb : Same B B') : ∀ {e : Env} {σ : St} {g : List Addr}, (∀ a ∈ g, ∀ o, H a = some o → H' a = some o) → SlsOk N F B H e σ g → SlsOk N F' B' H' e σ g
  | [], _, _, _, h => h
  | _ :: _, _, _, k, ⟨x, σ', g1, g2, e1, e2, h1, h2⟩ => ⟨x, σ', g1, g2, e1, e2, h1.stay sf sb (fun a ha => k a (by rw [e2]; exact List.mem_append_left _ ha)), h2.stay sf sb fun a ha => k a (by rw [e2]; exact List.mem_append_right _ ha)⟩
theorem SlsOk.cells : ∀ {e : Env} {σ : St} {g : List Addr}, SlsOk N F B H e σ g → ∀ a ∈ g, H a ≠ none
  | [], _, _, h => by rw [h.2]; exact fun a z => nomatch z
  | s :: e, _, _, h => by
    obtain ⟨x, σ', g1, g2, rfl, rfl, h1, h2⟩ := h
    refine fun a ha => (List.mem_append.mp ha).elim (fun z => ?_) (h2.cells a)
    cases s with
    | none => rw [show g1 = [] from h1] at z; cases z
    | some t => obtain ⟨v, _, _, r⟩ := h1; exact r.cells a z
theorem SlsOk.get : ∀ {e : Env} {σ : St} {g : List Addr} {i : Nat} {t : T}, SlsOk N F B H e σ g → e[i]? = some (some t) → ∃ v g', σ[i]? = some (some v) ∧ t.nt = true ∧ R N F B H t v g' ∧ ∀ a ∈ g', a ∈ g
  | [], _, _, _, _, _, h => by simp at h
  | s :: e, _, _, 0, t, h, q => by
    obtain ⟨x, σ', g1, g2, rfl, rfl, h1, h2⟩ := h
    simp at q; subst q
    obtain ⟨v, rfl, nt, r⟩ := h1
    exact ⟨v, g1, by simp, nt, r, fun a z => List.mem_append_left _ z⟩
  | s :: e, _, _, i + 1, t, h, q => by
    obtain ⟨x, σ', g1, g2, rfl, rfl, h1, h2⟩ := h
    obtain ⟨v, g', a, b, c, d⟩ := h2.get (i := i) (t := t) (by simpa using q)
    exact ⟨v, g', by simpa using a, b, c, fun a z => List.mem_append_right _ (d a z)⟩
theorem SlsOk.len : ∀ {e : Env} {σ : St} {g : List Addr}, SlsOk N F B H e σ g → e.length = σ.length
  | [], _, _, h => by rw [h.1]; rfl
  | s :: e, _, _, h => by
    obtain ⟨x, σ', g1, g2, rfl, rfl, h1, h2⟩ := h
    simp [h2.len]

theorem Sim.ext (s : Sim N F0 B F H env σ fp) (e : Ext F H F' H') : Sim N F0 B F' H' env σ fp where
  f0 := s.f0.trans e.f
  fh := e.fh
  bh := s.bh.trans e.h
  fr := fun a h => by
    rcases e.new a h with q | q
    · exact s.fr a q
    · exact .inr (s.bh.free q)
  sl := s.sl.grow e.f Same.rfl' e.h
  nd := s.nd
  out := fun a ha => ⟨e.stays (s.out a ha).1 (s.sl.cells a ha), (s.out a ha).2⟩

theorem Wants.after {WR' : WR} {res : PRes} {Q : VK} (w : Wants N WR' F B H res Q) (e : Ext F H F1 H1) : Wants N WR' F1 B H1 res Q := by
  cases res with
  | ok r => exact fun F' H' v g e' k => w F' H' v g (e.trans e') ⟨k.r, k.nd, fun a ha => ⟨e.h.free (k.new a ha).1, (k.new a ha).2⟩⟩
  | exc x => exact fun F' H' d e' k => w F' H' d (e.trans e') k
  | bad => exact w
theorem Wants.mono {WR' : WR} {res : PRes} {Q Q' : VK} (w : Wants N WR' F B H res Q) (h : ∀ v H', Q v H' → Q' v H') : Wants N WR' F B H res Q' := by
  cases res with
  | ok r => exact fun F' H' v g e' k => h _ _ (w F' H' v g e' k)
  | exc x => exact w
  | bad => exact w
/-- a value at once -/
theorem Wants.now {WR' : WR} {r : T} {v : V} {Q : VK} (s : Same F H) (k : R N F B H r v []) (w : Wants N WR' F B H (.ok r) Q) : Q v H :=
  w F H v [] (Ext.refl s) ⟨k, List.nodup_nil, fun _ z => nomatch z⟩

theorem R.blI (b : Bool) : R N F B H (.bl b) (.bl b) [] := ⟨rfl, rfl⟩
theorem Wants.nowB {WR' : WR} {b : Bool} {Q : VK} (s : Same F H) (w : Wants N WR' F B H (.ok (.bl b)) Q) : Q (.bl b) H := w.now s (R.blI b)
/-- two in a row: p, then k of its value -/
theorem DoesP.bind {t : TE} {p : P} {k : T → PRes} {Q : VK} (hp : DoesP N W t p) (s : Sim N F0 B F H env σ fp) (w : Wants N (fun c d H => W c d σ H) F B H ((p env).bind k) Q) {Q' : VK}
    (h : ∀ F1 H1 r v g, Sim N F0 B F1 H1 env σ fp → Ext F H F1 H1 → Val N B H F1 H1 r v g → Wants N (fun c d H => W c d σ H) F1 B H1 (k r) Q → Q' v H1) : t σ H Q' := by
  refine hp F0 B F H env σ fp Q' s ?_
  cases e : p env with
  | ok r =>
    rw [e] at w
    exact fun F' H' v g x y => h F' H' r v g (s.ext x) x y (Wants.after w x)
  | exc x => rw [e] at w; exact w
  | bad => rw [e] at w; exact w

/-! ### the readings -/
theorem does_var {i : Nat} : DoesP N W (tVar i) (pVar i) := by
  intro F0 B F H env σ fp Q s w
  unfold pVar at w
  cases e : env[i]? with
  | none => rw [e] at w; exact w.elim
  | some o =>
    cases o with
    | none => rw [e] at w; exact w.elim
    | some t =>
      rw [e] at w
      obtain ⟨v, g, e1, _, r, _⟩ := s.sl.get e
      exact ⟨v, e1, w.now s.fh (r.view s.bh)⟩
theorem does_c {v : V} {t : T} (h : ∀ F B H, R N F B H t v []) : DoesP N W (tC v) (pC t) := fun F0 B F H env σ fp Q s w => w.now s.fh (h F B H)

/-- what an operator gives of one value, of two -/
def V1 (N : Nm) (W : WR) (r : V → Hp → VK → Prop) (g : T → PRes) : Prop := ∀ F B H x v gx Q, Same F H → Same B H → R N F B H x v gx → Wants N W F B H (g x) Q → r v H Q
def V2 (N : Nm) (W : WR) (r : R2) (g : T → T → PRes) : Prop := ∀ F B H x y v w gx gy Q, Same F H → Same B H → R N F B H x v gx → R N F B H y w gy → Wants N W F B H (g x y) Q → r v w H Q
def VL (N : Nm) (W : WR) (r : List V → Hp → VK → Prop) (g : List T → PRes) : Prop := ∀ F B H xs vs gx Q, Same F H → Same B H → Rs N F B H xs vs gx → Wants N W F B H (g xs) Q → r vs H Q

theorem does_op2 {r : R2} {g : T → T → PRes} {ta tb : TE} {p q : P} (hv : ∀ W, V2 N W r g) (hp : DoesP N W ta p) (hq : DoesP N W tb q) : DoesP N W (tOp r ta tb) (p2 g p q) := by
  intro F0 B F H env σ fp Q s w
  refine hp.bind s w fun F1 H1 x v gx s1 e1 k1 w1 => ?_
  refine hq.bind s1 w1 fun F2 H2 y u gy s2 e2 k2 w2 => ?_
  exact hv _ F2 B H2 x y v u gx gy Q s2.fh s2.bh (k1.r.grow e2.f Same.rfl' e2.h) k2.r w2
theorem does_op1 {r : V → Hp → VK → Prop} {g : T → PRes} {ta : TE} {p : P} (hv : ∀ W, V1 N W r g) (hp : DoesP N W ta p) : DoesP N W (tUn r ta) (p1 g p) := by
  intro F0 B F H env σ fp Q s w
  refine hp.bind s w fun F1 H1 x v gx s1 e1 k1 w1 => ?_
  exact hv _ F1 B H1 x v gx Q s1.fh s1.bh k1.r w1
theorem does_aNil : DoesA N W tNil aNil := fun F0 B F H env σ fp Q s w => w F H [] [] (Ext.refl s.fh) ⟨rfl, rfl⟩ List.nodup_nil fun _ z => nomatch z
theorem does_aCons {ta : TE} {tr : TA} {p : P} {q : A} (hp : DoesP N W ta p) (hq : DoesA N W tr q) : DoesA N W (tCons ta tr) (aCons p q) := by
  intro F0 B F H env σ fp Q s w
  refine hp F0 B F H env σ fp _ s ?_
  have we : aCons p q env = (match p env with
    | .ok t => (match q env with | .ok ts => .ok (t :: ts) | .exc x => .exc x | .bad => .bad)
    | .exc x => .exc x | .bad => .bad) := rfl
  rw [we] at w
  cases e : p env with
  | bad => rw [e] at w; exact w
  | exc x => rw [e] at w; exact w
  | ok x =>
    rw [e] at w
    refine fun F1 H1 v gx e1 k1 => hq F0 B F1 H1 env σ fp _ (s.ext e1) ?_
    cases e' : q env with
    | bad => rw [e'] at w; exact w
    | exc x => rw [e'] at w; exact fun F' H' d e2 k => w F' H' d (e1.trans e2) k
    | ok xs =>
      rw [e'] at w
      intro F2 H2 vs gs e2 k2 nd new
      have nx : ∀ a ∈ gx, H1 a ≠ none := k1.r.cells
      refine w F2 H2 (v :: vs) (gx ++ gs) (e1.trans e2) ⟨v, vs, gx, gs, rfl, rfl, k1.r.grow e2.f Same.rfl' e2.h, k2⟩ (List.nodup_append.mpr ⟨k1.nd, nd, fun a ha b hb z => ?_⟩) fun a ha => ?_
      · subst z; exact nx a ha (new a hb).1
      · rcases List.mem_append.mp ha with ha | ha
        · exact ⟨(k1.new a ha).1, e2.stays (k1.new a ha).2 (nx a ha)⟩
        · exact ⟨e1.h.free (new a ha).1, (new a ha).2⟩
theorem does_cB {r : List V → Hp → VK → Prop} {g : List T → PRes} {t : TA} {p : A} (hv : ∀ W, VL N W r g) (hp : DoesA N W t p) : DoesP N W (tCB r t) (pA g p) := by
  intro F0 B F H env σ fp Q s w
  refine hp F0 B F H env σ fp _ s ?_
  have we : pA g p env = (p env).bind g := rfl
  rw [we] at w
  cases e : p env with
  | bad => rw [e] at w; exact w
  | exc x => rw [e] at w; exact w
  | ok xs =>
    rw [e] at w
    exact fun F1 H1 vs gs e1 k1 _ _ => hv _ F1 B H1 xs vs gs Q e1.fh (s.bh.trans e1.h) k1 (Wants.after w e1)
theorem R.bl_eq {b : Bool} {v : V} {g : List Addr} (h : R N F B H (.bl b) v g) : v = .bl b := h.1
/-- a value as a test -/
theorem does_test {ta : TE} {p : P} (hp : DoesP N W ta p) : DoesT N W (tTest ta) p := by
  intro F0 B F H env σ fp Q s w
  exact hp F0 B F H env σ fp _ s w
theorem does_tB {ta : TE} {p : P} (hp : DoesP N W ta p) : DoesT N W (tB ta) p := by
  intro F0 B F H env σ fp Q s w
  exact hp F0 B F H env σ fp _ s w
/-- a test's two ways -/
theorem DoesT.two {t : TT} {p : P} {a b : PRes} {Q : VK} (hp : DoesT N W t p) (s : Sim N F0 B F H env σ fp) (w : Wants N (fun c d H => W c d σ H) F B H ((p env).test a b) Q) {Q' : Bool → Hp → Prop}
    (ht : ∀ F1 H1, p env = .ok (.bl true) → Sim N F0 B F1 H1 env σ fp → Wants N (fun c d H => W c d σ H) F1 B H1 a Q → Q' true H1)
    (hf : ∀ F1 H1, p env = .ok (.bl false) → Sim N F0 B F1 H1 env σ fp → Wants N (fun c d H => W c d σ H) F1 B H1 b Q → Q' false H1) : t σ H Q' := by
  refine hp F0 B F H env σ fp Q' s ?_
  revert ht hf w
  generalize p env = r
  intro w ht hf
  cases r with
  | bad => exact w
  | exc x => exact w
  | ok x =>
    cases x with
    | bl c =>
      cases c with
      | true => exact fun F' H' v g e k => ⟨true, k.r.1, ht F' H' rfl (s.ext e) (Wants.after w e)⟩
      | false => exact fun F' H' v g e k => ⟨false, k.r.1, hf F' H' rfl (s.ext e) (Wants.after w e)⟩
    | _ => exact w.elim
theorem does_ifE {tc : TT} {ta tb : TE} {c p q : P} (hc : DoesT N W tc c) (hp : DoesP N W ta p) (hq : DoesP N W tb q) : DoesP N W (tIf tc ta tb) (pIf c p q) := by
  intro F0 B F H env σ fp Q s w
  refine hc.two s w (fun F1 H1 _ s1 w1 => ?_) (fun F1 H1 _ s1 w1 => ?_)
  · exact iteT (hp _ _ _ _ _ _ _ _ s1 w1)
  · exact iteF (hq _ _ _ _ _ _ _ _ s1 w1)
theorem does_and {ta tb : TT} {p q : P} (hp : DoesT N W ta p) (hq : DoesT N W tb q) : DoesT N W (tAnd ta tb) (pAnd p q) := by
  intro F0 B F H env σ fp Q s w
  refine hp.two s w (fun F1 H1 _ s1 w1 => ?_) (fun F1 H1 _ s1 w1 => ?_)
  · exact iteT (hq _ _ _ _ _ _ _ _ s1 w1)
  · obtain ⟨b, e, q⟩ := w1.nowB s1.fh
    cases e
    exact iteF q
theorem does_or {ta tb : TT} {p q : P} (hp : DoesT N W ta p) (hq : DoesT N W tb q) : DoesT N W (tOr ta tb) (pOr p q) := by
  intro F0 B F H env σ fp Q s w
  refine hp.two s w (fun F1 H1 _ s1 w1 => ?_) (fun F1 H1 _ s1 w1 => ?_)
  · obtain ⟨b, e, q⟩ := w1.nowB s1.fh
    cases e
    exact iteT q
  · exact iteF (hq _ _ _ _ _ _ _ _ s1 w1)
theorem does_not {ta : TT} {p : P} (hp : DoesT N W ta p) : DoesT N W (tNot ta) (p1 gNot p) := by
  intro F0 B F H env σ fp Q s w
  refine hp F0 B F H env σ fp _ s ?_
  have we : p1 gNot p env = (p env).bind gNot := rfl
  rw [we] at w
  revert w
  generalize p env = r
  intro w
  cases r with
  | bad => exact w
  | exc x => exact w
  | ok x =>
    cases x with
    | bl c =>
      refine fun F' H' v g e k => ⟨c, k.r.1, ?_⟩
      obtain ⟨b, e', q⟩ := (Wants.after w e).nowB e.fh
      cases e'
      exact q
    | _ => exact w.elim
/-- .. as values -/
theorem does_andV {ta tb : TE} {p q : P} (hp : DoesP N W ta p) (hq : DoesP N W tb q) : DoesP N W (tAndV ta tb) (pAnd p q) := by
  intro F0 B F H env σ fp Q s w
  refine (does_tB hp).two s w (fun F1 H1 _ s1 w1 => ?_) (fun F1 H1 _ s1 w1 => ?_)
  · exact iteT (hq _ _ _ _ _ _ _ _ s1 w1)
  · exact iteF (w1.nowB s1.fh)
theorem does_orV {ta tb : TE} {p q : P} (hp : DoesP N W ta p) (hq : DoesP N W tb q) : DoesP N W (tOrV ta tb) (pOr p q) := by
  intro F0 B F H env σ fp Q s w
  refine (does_tB hp).two s w (fun F1 H1 _ s1 w1 => ?_) (fun F1 H1 _ s1 w1 => ?_)
  · exact iteT (w1.nowB s1.fh)
  · exact iteF (hq _ _ _ _ _ _ _ _ s1 w1)
theorem does_notV {ta : TE} {p : P} (hp : DoesP N W ta p) : DoesP N W (tNotV ta) (p1 gNot p) := by
  intro F0 B F H env σ fp Q s w
  refine hp.bind s w fun F1 H1 x v gx s1 e1 k1 w1 => ?_
  cases x with
  | bl c => exact ⟨c, k1.r.1, w1.nowB s1.fh⟩
  | _ => exact w1.elim
/-- a fresh container frozen: nothing is done -/
def frzH (F H : Hp) (g : List Addr) : Hp := fun a => if a ∈ g then H a else F a
theorem frzH_in {g : List Addr} {a : Addr} (h : a ∈ g) : frzH F H g a = H a := if_pos h
theorem frzH_out {g : List Addr} {a : Addr} (h : a ∉ g) : frzH F H g a = F a := if_neg h
theorem Val.frozen {r t : T} {v : V} {g : List Addr} (e : Ext F H F' H') (k : Val N B H F' H' r v g) (hf : r.frz1 = some t) : Ext F H (frzH F' H' g) H' ∧ Val N B H (frzH F' H' g) H' t v [] := by
  have sf : Same F' (frzH F' H' g) := fun a o q => by
    by_cases hg : a ∈ g
    · rw [(k.new a hg).2] at q; cases q
    · rw [frzH_out hg]; exact q
  refine ⟨⟨e.f.trans sf, e.h, fun a o q => ?_, fun a q => ?_⟩, ⟨?_, List.nodup_nil, fun _ z => nomatch z⟩⟩
  · by_cases hg : a ∈ g
    · rw [frzH_in hg] at q; exact q
    · rw [frzH_out hg] at q; exact e.fh a o q
  · by_cases hg : a ∈ g
    · exact .inr (k.new a hg).1
    · rw [frzH_out hg] at q; exact e.new a q
  · unfold T.frz1 at hf
    by_cases so : r.solid = true
    · rw [if_pos so] at hf
      cases hf
      have q : R N (frzH F' H' g) (frzH F' H' g) (frzH F' H' g) r v g := k.r.move sf (fun a ha o z => by rw [frzH_in ha]; exact z) so
      exact q.asF _ _
    · rw [if_neg so] at hf; cases hf
theorem does_fz {ta : TE} {p : P} (hp : DoesP N W ta p) : DoesP N W ta (pFz p) := by
  intro F0 B F H env σ fp Q s w
  refine hp F0 B F H env σ fp _ s ?_
  have we : pFz p env = (p env).bind (fun t => ofO t.frz1) := rfl
  rw [we] at w
  revert w
  generalize p env = r
  intro w
  cases r with
  | bad => exact w
  | exc x => exact w
  | ok x =>
    intro F' H' v g e k
    cases hf : x.frz1 with
    | none => rw [PRes.bind_ok, hf] at w; exact w.elim
    | some t =>
      rw [PRes.bind_ok, hf] at w
      obtain ⟨e2, k2⟩ := k.frozen e hf
      exact w _ _ v [] e2 k2
end
end Cd

set_option Elab.async false
set_option linter.all false
set_option maxRecDepth 100000
/-! Statements. -/
namespace Cd
open PySem L2

def Pin (ps : List Nat) (σ σ' : St) : Prop := ∀ i ∈ ps, σ'[i]? = σ[i]?
/-- a value beside the slots -/
structure Beside (N : Nm) (F B H : Hp) (fp : List Addr) (r : T) (v : V) (g : List Addr) : Prop where
  r : R N F B H r v g
  nd : (fp ++ g).Nodup
  out : ∀ a ∈ g, F a = none ∧ B a = none

def WantsI (N : Nm) (W : WX) (F0 B F : Hp) (σ : St) (res : ERes) (Q : VK) : Prop := match res with
  | .ok r e => ∀ F' H' fp' v g, Sim N F0 B F' H' e σ fp' → Same F F' → Beside N F' B H' fp' r v g → Q v H'
  | .exc x e => ∀ F' H' fp' d, Sim N F0 B F' H' e σ fp' → Same F F' → ExR N F' x d → W (.ref (N.cls x.c)) d σ H'
  | .bad => False
def DoesI (N : Nm) (W : WX) (t : TE) (i : I) : Prop := ∀ F0 B F H env σ fp Q, Sim N F0 B F H env σ fp → WantsI N W F0 B F σ (i env) Q → t σ H Q
def DoesJ (N : Nm) (W : WX) (t : TT) (i : I) : Prop := ∀ F0 B F H env σ fp Q, Sim N F0 B F H env σ fp → WantsI N W F0 B F σ (i env) (fun v H' => ∃ b, v = .bl b ∧ Q b H') → t σ H Q

def WantsS (N : Nm) (W : WX) (ps : List Nat) (F0 B F : Hp) (σ : St) (res : SRes) (D : Ends) : Prop := match res with
  | .next e => ∀ F' H' σ' fp', Sim N F0 B F' H' e σ' fp' → Same F F' → Pin ps σ σ' → D.nx σ' H'
  | .brk e => ∀ F' H' σ' fp', Sim N F0 B F' H' e σ' fp' → Same F F' → Pin ps σ σ' → D.bk σ' H'
  | .cont e => ∀ F' H' σ' fp', Sim N F0 B F' H' e σ' fp' → Same F F' → Pin ps σ σ' → D.ct σ' H'
  | .ret r e => ∀ F' H' σ' fp' v g, Sim N F0 B F' H' e σ' fp' → Same F F' → Pin ps σ σ' → Beside N F' B H' fp' r v g → D.rt v H'
  | .exc x e => ∀ F' H' σ' fp' d, Sim N F0 B F' H' e σ' fp' → Same F F' → Pin ps σ σ' → ExR N F' x d → W (.ref (N.cls x.c)) d σ' H'
  | .bad => False
def DoesS (N : Nm) (W : WX) (ps : List Nat) (t : TS) (m : M) : Prop := ∀ F0 B F H env σ fp D, Sim N F0 B F H env σ fp → WantsS N W ps F0 B F σ (m env) D → t D σ H

section
variable {N : Nm} {W : WX} {ps : List Nat} {F B H F' B' H' F1 H1 F2 H2 F0 : Hp} {env : Env} {σ σ1 σ2 : St} {fp : List Addr}
theorem Pin.refl : Pin ps σ σ := fun _ _ => rfl
theorem Pin.trans (a : Pin ps σ σ1) (b : Pin ps σ1 σ2) : Pin ps σ σ2 := fun i h => (b i h).trans (a i h)
theorem Pin.set {i : Nat} {x : Option V} (h : i ∉ ps) : Pin ps σ (σ.set i x) := fun j hj => List.getElem?_set_ne (by rintro rfl; exact h hj)

theorem WantsS.after {res : SRes} {D : Ends} (w : WantsS N W ps F0 B F σ res D) (s : Same F F1) (p : Pin ps σ σ1) : WantsS N W ps F0 B F1 σ1 res D := by
  cases res with
  | next e => exact fun F' H' σ' fp' a b c => w F' H' σ' fp' a (s.trans b) (p.trans c)
  | brk e => exact fun F' H' σ' fp' a b c => w F' H' σ' fp' a (s.trans b) (p.trans c)
  | cont e => exact fun F' H' σ' fp' a b c => w F' H' σ' fp' a (s.trans b) (p.trans c)
  | ret r e => exact fun F' H' σ' fp' v g a b c d => w F' H' σ' fp' v g a (s.trans b) (p.trans c) d
  | exc x e => exact fun F' H' σ' fp' d a b c k => w F' H' σ' fp' d a (s.trans b) (p.trans c) k
  | bad => exact w
theorem WantsI.after {res : ERes} {Q : VK} (w : WantsI N W F0 B F σ res Q) (s : Same F F1) : WantsI N W F0 B F1 σ res Q := by
  cases res with
  | ok r e => exact fun F' H' fp' v g a b c => w F' H' fp' v g a (s.trans b) c
  | exc x e => exact fun F' H' fp' d a b c => w F' H' fp' d a (s.trans b) c
  | bad => exact w
theorem Sim.beside {r : T} {v : V} {g : List Addr} (s : Sim N F0 B F H env σ fp) (e : Ext F H F' H') (k : Val N B H F' H' r v g) : Beside N F' B H' fp r v g := by
  refine ⟨k.r, List.nodup_append.mpr ⟨s.nd, k.nd, fun a ha b hb z => ?_⟩, fun a ha => ⟨(k.new a ha).2, s.bh.free (k.new a ha).1⟩⟩
  subst z
  exact s.sl.cells a ha (k.new a hb).1

theorem does_iP {t : TE} {p : P} (hp : DoesP N W t p) : DoesI N W t (iP p) := by
  intro F0 B F H env σ fp Q s w
  refine hp F0 B F H env σ fp Q s ?_
  have we : iP p env = (match p env with | .ok t => .ok t env | .exc x => .exc x env | .bad => .bad) := rfl
  rw [we] at w
  revert w
  cases p env with
  | bad => exact fun w => w
  | exc x => exact fun w F' H' d e k => w F' H' fp d (s.ext e) e.f k
  | ok r => exact fun w F' H' v g e k => w F' H' fp v g (s.ext e) e.f (s.beside e k)
theorem does_jP {t : TT} {p : P} (hp : DoesT N W t p) : DoesJ N W t (iP p) := by
  intro F0 B F H env σ fp Q s w
  refine hp F0 B F H env σ fp Q s ?_
  have we : iP p env = (match p env with | .ok t => .ok t env | .exc x => .exc x env | .bad => .bad) := rfl
  rw [we] at w
  revert w
  cases p env with
  | bad => exact fun w => w
  | exc x => exact fun w F' H' d e k => w F' H' fp d (s.ext e) e.f k
  | ok r => exact fun w F' H' v g e k => w F' H' fp v g (s.ext e) e.f (s.beside e k)
theorem does_jtest {ta : TE} {i : I} (hp : DoesI N W ta i) : DoesJ N W (tTest ta) i := fun F0 B F H env σ fp Q s w => hp F0 B F H env σ fp _ s w
theorem does_jB {ta : TE} {i : I} (hp : DoesI N W ta i) : DoesJ N W (tB ta) i := fun F0 B F H env σ fp Q s w => hp F0 B F H env σ fp _ s w

/-! ### slots stored, forgotten -/
theorem SlsOk.set {x : Option V} {o : Option T} {g : List Addr} : ∀ {e : Env} {σ : St} {fp : List Addr} (i : Nat), SlsOk N F B H e σ fp → SlOk N F B H o x g → (fp ++ g).Nodup →
    ∃ fp', SlsOk N F B H (e.set i o) (σ.set i x) fp' ∧ fp'.Nodup ∧ ∀ a ∈ fp', a ∈ fp ∨ a ∈ g
  | [], _, fp, i, h, _, nd => ⟨fp, by rw [h.1]; cases i <;> exact ⟨rfl, h.2⟩, (List.nodup_append.mp nd).1, fun _ z => .inl z⟩
  | s :: e, _, _, 0, h, r, nd => by
    obtain ⟨y, σ', g1, g2, rfl, rfl, h1, h2⟩ := h
    obtain ⟨n1, n2, n3⟩ := List.nodup_append.mp nd
    obtain ⟨m1, m2, m3⟩ := List.nodup_append.mp n1
    refine ⟨g ++ g2, ⟨x, σ', g, g2, rfl, rfl, r, h2⟩, List.nodup_append.mpr ⟨n2, m2, fun a ha b hb z => ?_⟩, fun a ha => ?_⟩
    · exact n3 b (List.mem_append_right _ hb) a ha z.symm
    · rcases List.mem_append.mp ha with z | z
      · exact .inr z
      · exact .inl (List.mem_append_right _ z)
  | s :: e, _, _, i + 1, h, r, nd => by
    obtain ⟨y, σ', g1, g2, rfl, rfl, h1, h2⟩ := h
    obtain ⟨n1, n2, n3⟩ := List.nodup_append.mp nd
    obtain ⟨m1, m2, m3⟩ := List.nodup_append.mp n1
    obtain ⟨fp', k, kn, ks⟩ := SlsOk.set i h2 r (List.nodup_append.mpr ⟨m2, n2, fun a ha b hb z => n3 a (List.mem_append_right _ ha) b hb z⟩)
    refine ⟨g1 ++ fp', ⟨y, σ'.set i x, g1, fp', rfl, rfl, h1, k⟩, List.nodup_append.mpr ⟨m1, kn, fun a ha b hb z => ?_⟩, fun a ha => ?_⟩
    · subst z
      rcases ks a hb with q | q
      · exact m3 a ha a q rfl
      · exact n3 a (List.mem_append_left _ ha) a q rfl
    · rcases List.mem_append.mp ha with z | z
      · exact .inl (List.mem_append_left _ z)
      · rcases ks a z with q | q
        · exact .inl (List.mem_append_right _ q)
        · exact .inr q
theorem Sim.set {r : T} {v : V} {g : List Addr} (s : Sim N F0 B F H env σ fp) (i : Nat) (nt : r.nt = true) (k : Beside N F B H fp r v g) :
    ∃ fp', Sim N F0 B F H (env.set i (some r)) (σ.set i (some v)) fp' ∧ ∀ a ∈ fp', a ∈ fp ∨ a ∈ g := by
  obtain ⟨fp', a, b, c⟩ := s.sl.set (o := some r) (x := some v) i ⟨v, rfl, nt, k.r⟩ k.nd
  exact ⟨fp', ⟨s.f0, s.fh, s.bh, s.fr, a, b, fun x hx => (c x hx).elim (s.out x) (k.out x)⟩, c⟩
/-- a slot's thing forgotten, its value may stay -/
theorem SlsOk.drop : ∀ {e : Env} {σ : St} {fp : List Addr} (i : Nat), SlsOk N F B H e σ fp → fp.Nodup → ∃ fp', SlsOk N F B H (e.set i none) σ fp' ∧ fp'.Nodup ∧ ∀ a ∈ fp', a ∈ fp
  | [], _, fp, i, h, nd => ⟨fp, by cases i <;> exact h, nd, fun _ z => z⟩
  | s :: e, _, _, 0, h, nd => by
    obtain ⟨y, σ', g1, g2, rfl, rfl, h1, h2⟩ := h
    exact ⟨g2, ⟨y, σ', [], g2, rfl, rfl, rfl, h2⟩, (List.nodup_append.mp nd).2.1, fun a z => List.mem_append_right _ z⟩
  | s :: e, _, _, i + 1, h, nd => by
    obtain ⟨y, σ', g1, g2, rfl, rfl, h1, h2⟩ := h
    obtain ⟨m1, m2, m3⟩ := List.nodup_append.mp nd
    obtain ⟨fp', k, kn, ks⟩ := SlsOk.drop i h2 m2
    refine ⟨g1 ++ fp', ⟨y, σ', g1, fp', rfl, rfl, h1, k⟩, List.nodup_append.mpr ⟨m1, kn, fun a ha b hb => m3 a ha b (ks b hb)⟩, fun a ha => ?_⟩
    rcases List.mem_append.mp ha with z | z
    · exact List.mem_append_left _ z
    · exact List.mem_append_right _ (ks a z)
theorem Sim.drop (s : Sim N F0 B F H env σ fp) (i : Nat) : ∃ fp', Sim N F0 B F H (env.set i none) σ fp' ∧ ∀ a ∈ fp', a ∈ fp := by
  obtain ⟨fp', a, b, c⟩ := s.sl.drop i s.nd
  exact ⟨fp', ⟨s.f0, s.fh, s.bh, s.fr, a, b, fun x hx => s.out x (c x hx)⟩, c⟩
theorem Sim.forget : ∀ (fg : List Nat) {env : Env} {fp : List Addr}, Sim N F0 B F H env σ fp → ∃ fp', Sim N F0 B F H (forget fg env) σ fp'
  | [], _, fp, s => ⟨fp, s⟩
  | i :: is, env, fp, s => by
    obtain ⟨fp', s', _⟩ := s.drop i
    exact Sim.forget is s'

/-! ### statements -/
theorem does_next : DoesS N W ps tNext mNext := fun F0 B F H env σ fp D s w => w F H σ fp s Same.rfl' Pin.refl
theorem does_brk : DoesS N W ps tBreak mBrk := fun F0 B F H env σ fp D s w => w F H σ fp s Same.rfl' Pin.refl
theorem does_cont : DoesS N W ps tCont mCont := fun F0 B F H env σ fp D s w => w F H σ fp s Same.rfl' Pin.refl
theorem does_never : DoesS N W ps tNever mBad := fun F0 B F H env σ fp D s w => w
theorem does_seq {t u : TS} {a b : M} (ha : DoesS N W ps t a) (hb : DoesS N W ps u b) : DoesS N W ps (tSeq t u) (mSeq a b) := by
  intro F0 B F H env σ fp D s w
  refine ha F0 B F H env σ fp _ s ?_
  have we : mSeq a b env = (a env).seq b := rfl
  rw [we] at w
  revert w
  cases a env with
  | next e => exact fun w F' H' σ' fp' s' sf p => hb F0 B F' H' e σ' fp' D s' (w.after sf p)
  | brk e => exact fun w => w
  | cont e => exact fun w => w
  | ret r e => exact fun w => w
  | exc x e => exact fun w => w
  | bad => exact fun w => w
theorem does_ret {te : TE} {i : I} (h : DoesI N W te i) : DoesS N W ps (tRet te) (mRet i) := by
  intro F0 B F H env σ fp D s w
  refine h F0 B F H env σ fp _ s ?_
  have we : mRet i env = (match i env with | .ok t e => .ret t e | .exc x e => .exc x e | .bad => .bad) := rfl
  rw [we] at w
  revert w
  cases i env with
  | ok r e => exact fun w F' H' fp' v g s' sf k => w F' H' σ fp' v g s' sf Pin.refl k
  | exc x e => exact fun w F' H' fp' d s' sf k => w F' H' σ fp' d s' sf Pin.refl k
  | bad => exact fun w => w
theorem does_retN : DoesS N W ps tRetN mRetN := fun F0 B F H env σ fp D s w => w F H σ fp .non [] s Same.rfl' Pin.refl ⟨⟨rfl, rfl⟩, by rw [List.append_nil]; exact s.nd, fun _ z => nomatch z⟩
theorem does_drop {te : TE} {i : I} (h : DoesI N W te i) : DoesS N W ps (tDrop te) (mDrop i) := by
  intro F0 B F H env σ fp D s w
  refine h F0 B F H env σ fp _ s ?_
  have we : mDrop i env = (match i env with | .ok _ e => .next e | .exc x e => .exc x e | .bad => .bad) := rfl
  rw [we] at w
  revert w
  cases i env with
  | ok r e => exact fun w F' H' fp' v g s' sf k => w F' H' σ fp' s' sf Pin.refl
  | exc x e => exact fun w F' H' fp' d s' sf k => w F' H' σ fp' d s' sf Pin.refl k
  | bad => exact fun w => w
theorem does_if {tc : TT} {t u : TS} {c : I} {a b : M} (hc : DoesJ N W tc c) (ha : DoesS N W ps t a) (hb : DoesS N W ps u b) : DoesS N W ps (tIfS tc t u) (mIf c a b) := by
  intro F0 B F H env σ fp D s w
  refine hc F0 B F H env σ fp _ s ?_
  have we : mIf c a b env = (match c env with | .ok (.bl true) e => a e | .ok (.bl false) e => b e | .exc x e => .exc x e | _ => .bad) := rfl
  rw [we] at w
  revert w
  generalize c env = r
  intro w
  cases r with
  | bad => exact w
  | exc x e => exact fun F' H' fp' d s' sf k => w F' H' σ fp' d s' sf Pin.refl k
  | ok x e =>
    cases x with
    | bl c =>
      cases c with
      | true => exact fun F' H' fp' v g s' sf k => ⟨true, k.r.1, iteT (ha F0 B F' H' e σ fp' D s' (WantsS.after w sf Pin.refl))⟩
      | false => exact fun F' H' fp' v g s' sf k => ⟨false, k.r.1, iteF (hb F0 B F' H' e σ fp' D s' (WantsS.after w sf Pin.refl))⟩
    | _ => exact w.elim

/-- what a store does -/
def DoesG (N : Nm) (ps : List Nat) (g : TG) (tg : Tg) : Prop := ∀ F0 B F H env σ fp r v gr Q, Sim N F0 B F H env σ fp → Beside N F B H fp r v gr →
  (match tg.put r env with
    | some e => ∀ σ' fp', Sim N F0 B F H e σ' fp' → Pin ps σ σ' → (∀ a ∈ fp', a ∈ fp ∨ a ∈ gr) → Q σ' H
    | none => False) → g v σ H Q
def DoesGs (N : Nm) (ps : List Nat) (g : TGs) (tg : List Tg) : Prop := ∀ F0 B F H env σ fp rs vs Q, Sim N F0 B F H env σ fp → Rs N F B H rs vs [] →
  (match Tg.puts tg rs env with
    | some e => ∀ σ' fp', Sim N F0 B F H e σ' fp' → Pin ps σ σ' → (∀ a ∈ fp', a ∈ fp) → Q σ' H
    | none => False) → g vs σ H Q
theorem does_gName {i : Nat} (h : i ∉ ps) : DoesG N ps (gName i) (.nm i) := by
  intro F0 B F H env σ fp r v gr Q s k w
  have we : Tg.put (.nm i) r env = if r.nt then some (env.set i (some r)) else none := rfl
  rw [we] at w
  by_cases nt : r.nt = true
  · rw [if_pos nt] at w
    obtain ⟨fp', s', sub⟩ := s.set i nt k
    exact w _ fp' s' (Pin.set h) sub
  · rw [if_neg nt] at w; exact w.elim
theorem Rs.nil_fp {ts : List T} {vs : List V} {v : V} {t : T} (h : Rs N F B H (t :: ts) (v :: vs) []) : R N F B H t v [] ∧ Rs N F B H ts vs [] := by
  obtain ⟨v', vs', g1, g2, e, e2, h1, h2⟩ := h
  cases e
  obtain ⟨rfl, rfl⟩ := List.append_eq_nil_iff.mp e2.symm
  exact ⟨h1, h2⟩
theorem does_gNil : DoesGs N ps gNil [] := by
  intro F0 B F H env σ fp rs vs Q s k w
  cases rs with
  | nil => exact ⟨k.1, w σ fp s Pin.refl fun _ z => z⟩
  | cons t ts => exact w.elim
theorem does_gCons {g : TG} {u : TGs} {tg : Tg} {tgs : List Tg} (hg : DoesG N ps g tg) (hu : DoesGs N ps u tgs) : DoesGs N ps (gCons g u) (tg :: tgs) := by
  intro F0 B F H env σ fp rs vs Q s k w
  cases rs with
  | nil => exact w.elim
  | cons t ts =>
    obtain ⟨v, vs', g1, g2, rfl, e2, h1, h2⟩ := id k
    obtain ⟨rfl, rfl⟩ := List.append_eq_nil_iff.mp e2.symm
    refine ⟨v, vs', rfl, hg F0 B F H env σ fp t v [] _ s ⟨h1, by rw [List.append_nil]; exact s.nd, fun _ z => nomatch z⟩ ?_⟩
    have we : Tg.puts (tg :: tgs) (t :: ts) env = (match tg.put t env with | some e => Tg.puts tgs ts e | none => none) := rfl
    rw [we] at w
    cases e : tg.put t env with
    | none => rw [e] at w; exact w.elim
    | some e1 =>
      rw [e] at w
      refine fun σ' fp' s' p sub => hu F0 B F H e1 σ' fp' ts vs' Q s' h2 ?_
      dsimp only at w
      cases e3 : Tg.puts tgs ts e1 with
      | none => rw [e3] at w; exact w
      | some e4 => rw [e3] at w; exact fun σ2 fp2 s2 p2 sub2 => w σ2 fp2 s2 (p.trans p2) fun a z => (sub a (sub2 a z)).elim (fun q => q) (fun q => nomatch q)
theorem Tg.puts_len : ∀ {tgs : List Tg} {us : List T} {e e2 : Env}, Tg.puts tgs us e = some e2 → us.length = tgs.length
  | [], [], _, _, _ => rfl
  | [], _ :: _, _, _, h => by cases h
  | _ :: _, [], _, _, h => by cases h
  | tg :: tgs, u :: us, e, e2, h => by
    have we : Tg.puts (tg :: tgs) (u :: us) e = (match tg.put u e with | some e => Tg.puts tgs us e | none => none) := rfl
    rw [we] at h
    cases e1 : tg.put u e with
    | none => rw [e1] at h; cases h
    | some e3 => rw [e1] at h; rw [List.length_cons, List.length_cons, Tg.puts_len h]
theorem does_gTup {n : Nat} {u : TGs} {tgs : List Tg} (hu : DoesGs N ps u tgs) (hn : tgs.length = n) : DoesG N ps (L2.gTup N.K n u) (.tp tgs) := by
  intro F0 B F H env σ fp r v gr Q s k w
  cases r with
  | tup f ts =>
    obtain ⟨a, vs, rfl, _, h1, h2⟩ := k.r.tuple s.fh s.bh
    have we : Tg.put (.tp tgs) (.tup f ts) env = Tg.puts tgs (ts.map (T.of f)) env := rfl
    rw [we] at w
    cases e : Tg.puts tgs (ts.map (T.of f)) env with
    | none => rw [e] at w; exact w.elim
    | some e1 =>
      rw [e] at w
      refine ⟨a, vs, rfl, SqT.of h1, by rw [← h2.len, ← hn]; exact Tg.puts_len e, hu F0 B F H env σ fp _ vs Q s h2 ?_⟩
      rw [e]
      exact fun σ' fp' s' p sub => w σ' fp' s' p fun a z => .inl (sub a z)
  | _ => exact w.elim
theorem does_asg {te : TE} {g : TG} {i : I} {tg : Tg} (h : DoesI N W te i) (hg : DoesG N ps g tg) : DoesS N W ps (tAsg te g) (mAsg tg i) := by
  intro F0 B F H env σ fp D s w
  refine h F0 B F H env σ fp _ s ?_
  have we : mAsg tg i env = (match i env with
    | .ok t e => (match tg.put t e with | some e => .next e | none => .bad)
    | .exc x e => .exc x e | .bad => .bad) := rfl
  rw [we] at w
  revert w
  cases i env with
  | bad => exact fun w => w
  | exc x e => exact fun w F' H' fp' d s' sf k => w F' H' σ fp' d s' sf Pin.refl k
  | ok r e =>
    intro w F' H' fp' v gr s' sf k
    refine hg F0 B F' H' e σ fp' r v gr _ s' k ?_
    dsimp only at w
    cases e2 : tg.put r e with
    | none => rw [e2] at w; exact w
    | some e3 => rw [e2] at w; exact fun σ2 fp2 s2 p _ => w F' H' σ2 fp2 s2 sf p
end
end Cd

set_option Elab.async false
set_option linter.all false
set_option maxRecDepth 100000
/-! Loops, comprehensions. -/
namespace Cd
open PySem L2

/-- J goes over ts, as long as what is frozen and what is lent stands -/
structure Walk (N : Nm) (B F : Hp) (J : It) (ts : List T) : Prop where
  line : ts.length ≤ sizeLine
  stop : ∀ F' H, Same F F' → Same F' H → Same B H → J.stop ts.length H
  go : ∀ F' H i, i < ts.length → Same F F' → Same F' H → Same B H → J.go i H
  yld : ∀ F' H i x H', i < ts.length → Same F F' → Same F' H → Same B H → J.yld i H x H' → ∃ t F'', ts[i]? = some t ∧ Ext F' H F'' H' ∧ R N F'' B H' t x []
def WantsW (N : Nm) (W : WR) (F B H : Hp) (res : LRes) (Q : It → Hp → Prop) : Prop := match res with
  | .ok ts => ∀ F' H' J, Ext F H F' H' → Walk N B F' J ts → Q J H'
  | .exc x => ∀ F' H' d, Ext F H F' H' → ExR N F' x d → W (.ref (N.cls x.c)) d H'
  | .bad => False
def DoesW (N : Nm) (W : WX) (wi : TI) (s : A) : Prop := ∀ F0 B F H env σ fp Q, Sim N F0 B F H env σ fp → WantsW N (fun c d H => W c d σ H) F B H (s env) Q → wi σ H Q

section
variable {N : Nm} {W : WX} {ps : List Nat} {F B H F' B' H' F1 H1 F2 H2 F0 : Hp} {env : Env} {σ σ1 σ2 : St} {fp : List Addr}
theorem Walk.mono {J : It} {ts : List T} (w : Walk N B F J ts) (s : Same F F1) : Walk N B F1 J ts :=
  ⟨w.line, fun F' H a b c => w.stop F' H (s.trans a) b c, fun F' H i l a b c => w.go F' H i l (s.trans a) b c, fun F' H i x H' l a b c => w.yld F' H i x H' l (s.trans a) b c⟩
theorem R.nil_of {t : T} {v : V} {g : List Addr} (h : R N F B H t v g) (nt : t.flag ≠ .own) : R N F B H t v [] := by
  have := h.nofp nt; subst this; exact h
/-- items that stand still, in any later heap -/
theorem still {ts : List T} {vs : List V} {g : List Addr} {f : Fl} (hf : f = .frz ∨ f = .bor)
    (h : f = .frz → Rs N F F F ts vs g) (h' : f = .bor → Rs N F B B ts vs g) : ∀ (F' H' : Hp), Same F F' → Rs N F' B H' (ts.map (T.of f)) vs [] := by
  intro F' H' s
  rcases hf with rfl | rfl
  · exact Rs.map (fun t v fp r => by rw [show T.of .frz t = t.fl1 (fun _ => .frz) from T.fl1_eq (by cases t.flag <;> rfl)]; exact r.asF _ _) ((h rfl).grow s s s)
  · exact Rs.map (fun t v fp r => r.asB _) ((h' rfl).grow s Same.rfl' Same.rfl')
theorem walk_list {f : Fl} {ts : List T} {v : V} {g : List Addr} (hf : f = .frz ∨ f = .bor) (h : R N F B H (.lst f ts) v g) : ∃ a vs, v = .ref a ∧ (∀ F' H, Same F F' → Same F' H → Same B H → SqL N.K H a vs) ∧ Walk N B F (Itl N.K a) (ts.map (T.of f)) := by
  obtain ⟨a, vs, rfl, line, h⟩ := h
  have key : (∀ F' H, Same F F' → Same F' H → Same B H → SqL N.K H a vs) ∧ (∀ (F' H' : Hp), Same F F' → Rs N F' B H' (ts.map (T.of f)) vs []) := by
    rcases hf with rfl | rfl
    · obtain ⟨_, h1, g, h3⟩ := h
      exact ⟨fun F' H s1 s2 _ => SqL.of (s2 _ _ (s1 _ _ h1)), still (.inl rfl) (fun _ => h3) (fun z => by cases z)⟩
    · obtain ⟨_, h1, g, h3⟩ := h
      exact ⟨fun F' H _ _ s3 => SqL.of (s3 _ _ h1), still (.inr rfl) (fun z => by cases z) fun _ => h3⟩
  obtain ⟨hs, hr⟩ := key
  have hl : (ts.map (T.of f)).length = vs.length := (hr F H Same.rfl').len
  refine ⟨a, vs, rfl, hs, ⟨by rw [List.length_map]; exact line, fun F' H s1 s2 s3 => ⟨vs, hs F' H s1 s2 s3, by omega⟩, fun F' H i hi s1 s2 s3 => ⟨vs, vs[i]'(by omega), hs F' H s1 s2 s3, by simp⟩, fun F' H i x H' hi s1 s2 s3 y => ?_⟩⟩
  obtain ⟨rfl, y⟩ := y
  have hx := y vs (hs F' H' s1 s2 s3)
  obtain ⟨u, gg, e1, r1⟩ := (hr F' H' s1).get (List.getElem?_eq_getElem hi)
  rw [hx] at e1
  cases e1
  refine ⟨_, F', List.getElem?_eq_getElem hi, Ext.refl s2, ?_⟩
  have hm := hr F' H' s1
  -- the footprint of an item of a list of footprint []
  have : ∀ {ts : List T} {vs : List V} {i : Nat} (hi : i < ts.length) {x : V}, Rs N F' B H' ts vs [] → vs[i]? = some x → R N F' B H' ts[i] x [] := by
    intro ts
    induction ts with
    | nil => intro vs i hi; exact absurd hi (Nat.not_lt_zero _)
    | cons t ts ih =>
      intro vs i hi x h e
      cases vs with
      | nil => simp at e
      | cons v vs =>
        obtain ⟨a1, a2⟩ := Rs.nil_fp (v := v) h
        cases i with
        | zero => simp at e; subst e; exact a1
        | succ i => exact ih (by simpa using hi) a2 (by simpa using e)
  exact this hi hm hx
theorem walk_tup {f : Fl} {ts : List T} {v : V} {g : List Addr} (hf : f = .frz ∨ f = .bor) (h : R N F B H (.tup f ts) v g) : ∃ a vs, v = .ref a ∧ (∀ F' H, Same F F' → Same F' H → Same B H → SqT N.K H a vs) ∧ Walk N B F (Itt N.K a) (ts.map (T.of f)) := by
  obtain ⟨a, vs, rfl, line, h⟩ := h
  have key : (∀ F' H, Same F F' → Same F' H → Same B H → SqT N.K H a vs) ∧ (∀ (F' H' : Hp), Same F F' → Rs N F' B H' (ts.map (T.of f)) vs []) := by
    rcases hf with rfl | rfl
    · obtain ⟨_, h1, g, h3⟩ := h
      exact ⟨fun F' H s1 s2 _ => SqT.of (s2 _ _ (s1 _ _ h1)), still (.inl rfl) (fun _ => h3) (fun z => by cases z)⟩
    · obtain ⟨_, h1, g, h3⟩ := h
      exact ⟨fun F' H _ _ s3 => SqT.of (s3 _ _ h1), still (.inr rfl) (fun z => by cases z) fun _ => h3⟩
  obtain ⟨hs, hr⟩ := key
  have hl : (ts.map (T.of f)).length = vs.length := (hr F H Same.rfl').len
  refine ⟨a, vs, rfl, hs, ⟨by rw [List.length_map]; exact line, fun F' H s1 s2 s3 => ⟨vs, hs F' H s1 s2 s3, by omega⟩, fun F' H i hi s1 s2 s3 => ⟨vs, vs[i]'(by omega), hs F' H s1 s2 s3, by simp⟩, fun F' H i x H' hi s1 s2 s3 y => ?_⟩⟩
  obtain ⟨rfl, y⟩ := y
  have hx := y vs (hs F' H' s1 s2 s3)
  refine ⟨_, F', List.getElem?_eq_getElem hi, Ext.refl s2, ?_⟩
  have hm := hr F' H' s1
  have : ∀ {ts : List T} {vs : List V} {i : Nat} (hi : i < ts.length) {x : V}, Rs N F' B H' ts vs [] → vs[i]? = some x → R N F' B H' ts[i] x [] := by
    intro ts
    induction ts with
    | nil => intro vs i hi; exact absurd hi (Nat.not_lt_zero _)
    | cons t ts ih =>
      intro vs i hi x h e
      cases vs with
      | nil => simp at e
      | cons v vs =>
        obtain ⟨a1, a2⟩ := Rs.nil_fp (v := v) h
        cases i with
        | zero => simp at e; subst e; exact a1
        | succ i => exact ih (by simpa using hi) a2 (by simpa using e)
  exact this hi hm hx
theorem stands_or {f : Fl} (h : stands f = true) : f = .frz ∨ f = .bor := by cases f <;> first | exact .inl rfl | exact .inr rfl | cases h
theorem does_wList {tl : TE} {p : P} (hp : DoesP N W tl p) : DoesW N W (iList N.K tl) (sList p) := by
  intro F0 B F H env σ fp Q s w
  refine hp F0 B F H env σ fp _ s ?_
  have we : sList p env = (match p env with
    | .ok (.lst f ts) => if stands f then .ok (ts.map (T.of f)) else .bad
    | .exc x => .exc x | _ => .bad) := rfl
  rw [we] at w
  cases e : p env with
  | bad => rw [e] at w; exact w
  | exc x => rw [e] at w; exact w
  | ok r =>
    rw [e] at w
    cases r with
    | lst f ts =>
      dsimp only at w
      by_cases c : stands f = true
      · rw [if_pos c] at w
        intro F' H' v g ex k
        obtain ⟨a, vs, rfl, hs, hw⟩ := walk_list (stands_or c) k.r
        exact ⟨a, rfl, ⟨vs, hs F' H' Same.rfl' ex.fh (s.bh.trans ex.h)⟩, w F' H' _ ex hw⟩
      · rw [if_neg c] at w; exact w.elim
    | _ => exact w.elim
theorem does_wTup {tl : TE} {p : P} (hp : DoesP N W tl p) : DoesW N W (iTup N.K tl) (sTup p) := by
  intro F0 B F H env σ fp Q s w
  refine hp F0 B F H env σ fp _ s ?_
  have we : sTup p env = (match p env with
    | .ok (.tup f ts) => if stands f then .ok (ts.map (T.of f)) else .bad
    | .exc x => .exc x | _ => .bad) := rfl
  rw [we] at w
  cases e : p env with
  | bad => rw [e] at w; exact w
  | exc x => rw [e] at w; exact w
  | ok r =>
    rw [e] at w
    cases r with
    | tup f ts =>
      dsimp only at w
      by_cases c : stands f = true
      · rw [if_pos c] at w
        intro F' H' v g ex k
        obtain ⟨a, vs, rfl, hs, hw⟩ := walk_tup (stands_or c) k.r
        exact ⟨a, rfl, ⟨vs, hs F' H' Same.rfl' ex.fh (s.bh.trans ex.h)⟩, w F' H' _ ex hw⟩
      · rw [if_neg c] at w; exact w.elim
    | _ => exact w.elim
theorem rngT_len (lo : Int) (n : Nat) : (rngT lo n).length = n := by simp [rngT]
theorem walk_rng (lo : Int) (n : Nat) (hn : n ≤ sizeLine) : Walk N B F (Itr lo n) (rngT lo n) := by
  refine ⟨by rw [rngT_len]; exact hn, fun _ _ _ _ _ => by rw [rngT_len]; exact Nat.le_refl _, fun _ _ i h _ _ _ => by rw [rngT_len] at h; exact h, fun F' H i x H' h s1 s2 s3 y => ?_⟩
  obtain ⟨rfl, rfl⟩ := y
  rw [rngT_len] at h
  exact ⟨.int (lo + i), F', by simp [rngT, h], Ext.refl s2, rfl, rfl⟩
theorem inR_iff {i : Int} : inR i = true ↔ -(2 ^ 62) ≤ i ∧ i < 2 ^ 62 := by simp [inR]
theorem inR0_le {i : Int} (h : inR0 i = true) : i.toNat ≤ sizeLine := by
  have q : i ≤ 16777216 := of_decide_eq_true h
  have e : sizeLine = 16777216 := by decide
  rw [e]; omega
theorem does_wRng1 {ta : TE} {p : P} (hp : DoesP N W ta p) : DoesW N W (iRng1 (tCons ta tNil)) (sRng1 p) := by
  intro F0 B F H env σ fp Q s w
  refine hp F0 B F H env σ fp _ s ?_
  have we : sRng1 p env = (match p env with
    | .ok (.int n) => if inR n && inR0 n then .ok (rngT 0 n.toNat) else .bad
    | .exc x => .exc x | _ => .bad) := rfl
  rw [we] at w
  revert w
  generalize p env = r
  intro w
  cases r with
  | bad => exact w
  | exc x => exact w
  | ok r =>
    cases r with
    | int n =>
      intro F' H' v g ex k
      obtain ⟨rfl, _⟩ := k.r
      dsimp only at w
      by_cases c : (inR n && inR0 n) = true
      · rw [if_pos c] at w
        rw [Bool.and_eq_true] at c
        exact ⟨n, rfl, (inR_iff.mp c.1).1, (inR_iff.mp c.1).2, w F' H' _ ex (walk_rng 0 _ (inR0_le c.2))⟩
      · rw [if_neg c] at w; exact w.elim
    | _ => exact w.elim
theorem does_wRng2 {ta tb : TE} {p q : P} (hp : DoesP N W ta p) (hq : DoesP N W tb q) : DoesW N W (iRng2 (tCons ta (tCons tb tNil))) (sRng2 p q) := by
  intro F0 B F H env σ fp Q s w
  refine hp F0 B F H env σ fp _ s ?_
  have we : sRng2 p q env = (match p env with
  | .ok (.int a) => (match q env with
    | .ok (.int b) => if inR a && inR b && inR0 (b - a) then .ok (rngT a (b - a).toNat) else .bad
    | .exc x => .exc x | _ => .bad)
  | .exc x => .exc x | _ => .bad) := rfl
  rw [we] at w
  revert w
  generalize p env = r
  intro w
  cases r with
  | bad => exact w
  | exc x => exact w
  | ok r =>
    cases r with
    | int n =>
      intro F' H' v g ex k
      obtain ⟨rfl, _⟩ := k.r
      dsimp only at w
      refine hq F0 B F' H' env σ fp _ (s.ext ex) ?_
      revert w
      generalize q env = r
      intro w
      cases r with
      | bad => exact w
      | exc x => exact fun F2 H2 d e2 k2 => w F2 H2 d (ex.trans e2) k2
      | ok r =>
        cases r with
        | int m =>
          intro F2 H2 v2 g2 ex2 k2
          obtain ⟨rfl, _⟩ := k2.r
          dsimp only at w
          by_cases c : (inR n && inR m && inR0 (m - n)) = true
          · rw [if_pos c] at w
            rw [Bool.and_eq_true, Bool.and_eq_true] at c
            exact ⟨n, m, rfl, ⟨(inR_iff.mp c.1.1).1, (inR_iff.mp c.1.1).2, (inR_iff.mp c.1.2).1, (inR_iff.mp c.1.2).2⟩, w F2 H2 _ (ex.trans ex2) (walk_rng n _ (inR0_le c.2))⟩
          · rw [if_neg c] at w; exact w.elim
        | _ => exact w.elim
    | _ => exact w.elim

/-! ### for -/
theorem does_for {wi : TI} {g : TG} {tb : TS} {src : A} {tg : Tg} {body : M} (fg : List Nat) (hw : DoesW N W wi src) (hg : DoesG N ps g tg) (hb : DoesS N W ps tb body) : DoesS N W ps (tFor wi g tb) (mFor src tg body fg) := by
  intro F0 B F H env σ fp D s w
  refine hw F0 B F H env σ fp _ s ?_
  have we : mFor src tg body fg env = (match src env with
    | .ok ts => forGo tg body fg ts env
    | .exc x => .exc x env | .bad => .bad) := rfl
  rw [we] at w
  revert w
  cases src env with
  | bad => exact fun w => w
  | exc x => exact fun w F' H' d e k => w F' H' σ fp d (s.ext e) e.f Pin.refl k
  | ok ts =>
    intro w F1 H1 J e1 wk
    refine ⟨fun i m σ' H' => ∃ F' env' fp', Sim N F0 B F' H' env' σ' fp' ∧ Same F1 F' ∧ i + m = ts.length ∧ WantsS N W ps F0 B F' σ' (forGo tg body fg (ts.drop i) env') D,
      ⟨ts.length, F1, env, fp, s.ext e1, Same.rfl', by omega, WantsS.after w e1.f Pin.refl⟩, ?_⟩
    rintro i m σ' H' ⟨F', env', fp', s', sf, em, w'⟩
    by_cases hi : i < ts.length
    · refine .inr ⟨wk.go F' H' i hi sf s'.fh s'.bh, fun σ2 H2 => ∃ F2 env2 fp2, Sim N F0 B F2 H2 env2 σ2 fp2 ∧ Same F1 F2 ∧ WantsS N W ps F0 B F2 σ2 (forGo tg body fg (ts.drop (i + 1)) env2) D,
        fun σ2 H2 ⟨F2, env2, fp2, a, b, c⟩ => ⟨m - 1, by omega, F2, env2, fp2, a, b, by omega, c⟩, fun x H2 y => ?_⟩
      obtain ⟨t, F2, et, ex, r⟩ := wk.yld F' H' i x H2 hi sf s'.fh s'.bh y
      have s2 := s'.ext ex
      have ed : ts.drop i = t :: ts.drop (i + 1) := by
        obtain ⟨h1, h2⟩ := List.getElem?_eq_some_iff.mp et
        rw [List.drop_eq_getElem_cons h1, h2]
      rw [ed] at w'
      have we' : forGo tg body fg (t :: ts.drop (i + 1)) env' = (match tg.put t env' with
        | none => .bad
        | some e1 => match body e1 with
          | .next e2 => forGo tg body fg (ts.drop (i + 1)) (forget fg e2)
          | .cont e2 => forGo tg body fg (ts.drop (i + 1)) (forget fg e2)
          | .brk e2 => .next e2
          | r => r) := rfl
      rw [we'] at w'
      refine hg F0 B F2 H2 env' σ' fp' t x [] _ s2 ⟨r, by rw [List.append_nil]; exact s2.nd, fun _ z => nomatch z⟩ ?_
      cases e3 : tg.put t env' with
      | none => rw [e3] at w'; exact w'
      | some e4 =>
        rw [e3] at w'
        dsimp only at w'
        refine fun σ3 fp3 s3 p3 _ => hb F0 B F2 H2 e4 σ3 fp3 _ s3 ?_
        have again : ∀ {e5 : Env}, WantsS N W ps F0 B F' σ' (forGo tg body fg (ts.drop (i + 1)) (forget fg e5)) D → ∀ F4 H4 σ4 fp4, Sim N F0 B F4 H4 e5 σ4 fp4 → Same F2 F4 → Pin ps σ3 σ4 →
            ∃ F2 env2 fp2, Sim N F0 B F2 H4 env2 σ4 fp2 ∧ Same F1 F2 ∧ WantsS N W ps F0 B F2 σ4 (forGo tg body fg (ts.drop (i + 1)) env2) D := fun w5 F4 H4 σ4 fp4 s4 sf4 p4 => by
          obtain ⟨fp5, s5⟩ := Sim.forget fg s4
          exact ⟨F4, _, fp5, s5, (sf.trans ex.f).trans sf4, WantsS.after w5 (ex.f.trans sf4) (p3.trans p4)⟩
        revert w'
        cases body e4 with
        | bad => exact fun w => w
        | next e5 => exact fun w5 F4 H4 σ4 fp4 s4 sf4 p4 => again w5 F4 H4 σ4 fp4 s4 sf4 p4
        | cont e5 => exact fun w5 F4 H4 σ4 fp4 s4 sf4 p4 => again w5 F4 H4 σ4 fp4 s4 sf4 p4
        | brk e5 => exact fun w5 F4 H4 σ4 fp4 s4 sf4 p4 => w5 F4 H4 σ4 fp4 s4 (ex.f.trans sf4) (p3.trans p4)
        | ret r e5 => exact fun w5 F4 H4 σ4 fp4 v g s4 sf4 p4 k => w5 F4 H4 σ4 fp4 v g s4 (ex.f.trans sf4) (p3.trans p4) k
        | exc x e5 => exact fun w5 F4 H4 σ4 fp4 d s4 sf4 p4 k => w5 F4 H4 σ4 fp4 d s4 (ex.f.trans sf4) (p3.trans p4) k
    · have e : i = ts.length := by omega
      subst e
      rw [List.drop_length] at w'
      exact .inl ⟨wk.stop F' H' sf s'.fh s'.bh, w' F' H' σ' fp' s' Same.rfl' Pin.refl⟩

/-! ### while -/
theorem does_while {tc : TT} {tb : TS} {c : P} {body : M} (n : Env → Nat) (fg : List Nat) (hc : DoesT N W tc c) (hb : DoesS N W ps tb body) : DoesS N W ps (tWhile tc tb) (mWhile n c body fg) := by
  intro F0 B F H env σ fp D s w
  refine ⟨fun m σ' H' => ∃ F' env' fp', Sim N F0 B F' H' env' σ' fp' ∧ WantsS N W ps F0 B F' σ' (whGo c body fg m env') D, ⟨n env, F, env, fp, s, w⟩, ?_⟩
  rintro m σ' H' ⟨F', env', fp', s', w'⟩
  cases m with
  | zero => exact w'.elim
  | succ m =>
    have we : whGo c body fg (m + 1) env' = (match c env' with
      | .ok (.bl true) => (match body env' with
        | .next e2 => whGo c body fg m (forget fg e2)
        | .cont e2 => whGo c body fg m (forget fg e2)
        | .brk e2 => .next e2
        | r => r)
      | .ok (.bl false) => .next env'
      | .exc x => .exc x env'
      | _ => .bad) := rfl
    rw [we] at w'
    refine hc F0 B F' H' env' σ' fp' _ s' ?_
    revert w'
    generalize c env' = r
    intro w'
    cases r with
    | bad => exact w'
    | exc x => exact fun F2 H2 d e k => w' F2 H2 σ' fp' d (s'.ext e) e.f Pin.refl k
    | ok x =>
      cases x with
      | bl b =>
        cases b with
        | false => exact fun F2 H2 v g e k => ⟨false, k.r.1, iteF (w' F2 H2 σ' fp' (s'.ext e) e.f Pin.refl)⟩
        | true =>
          refine fun F2 H2 v g e k => ⟨true, k.r.1, iteT ⟨fun σ3 H3 => ∃ F3 env3 fp3, Sim N F0 B F3 H3 env3 σ3 fp3 ∧ WantsS N W ps F0 B F3 σ3 (whGo c body fg m env3) D, fun σ3 H3 ⟨F3, e3, fp3, a, b⟩ => ⟨m, Nat.lt_succ_self _, F3, e3, fp3, a, b⟩, hb F0 B F2 H2 env' σ' fp' _ (s'.ext e) ?_⟩⟩
          have again : ∀ {e5 : Env}, WantsS N W ps F0 B F' σ' (whGo c body fg m (forget fg e5)) D → ∀ F4 H4 σ4 fp4, Sim N F0 B F4 H4 e5 σ4 fp4 → Same F2 F4 → Pin ps σ' σ4 →
              ∃ F3 env3 fp3, Sim N F0 B F3 H4 env3 σ4 fp3 ∧ WantsS N W ps F0 B F3 σ4 (whGo c body fg m env3) D := fun w5 F4 H4 σ4 fp4 s4 sf4 p4 => by
            obtain ⟨fp5, s5⟩ := Sim.forget fg s4
            exact ⟨F4, _, fp5, s5, WantsS.after w5 (e.f.trans sf4) p4⟩
          dsimp only at w'
          revert w'
          cases body env' with
          | bad => exact fun w => w
          | next e5 => exact fun w5 F4 H4 σ4 fp4 s4 sf4 p4 => again w5 F4 H4 σ4 fp4 s4 sf4 p4
          | cont e5 => exact fun w5 F4 H4 σ4 fp4 s4 sf4 p4 => again w5 F4 H4 σ4 fp4 s4 sf4 p4
          | brk e5 => exact fun w5 F4 H4 σ4 fp4 s4 sf4 p4 => w5 F4 H4 σ4 fp4 s4 (e.f.trans sf4) p4
          | ret r e5 => exact fun w5 F4 H4 σ4 fp4 v g s4 sf4 p4 k => w5 F4 H4 σ4 fp4 v g s4 (e.f.trans sf4) p4 k
          | exc x e5 => exact fun w5 F4 H4 σ4 fp4 d s4 sf4 p4 k => w5 F4 H4 σ4 fp4 d s4 (e.f.trans sf4) p4 k
      | _ => exact w'.elim
end
end Cd

set_option Elab.async false
set_option linter.all false
set_option maxRecDepth 100000
/-! Comprehensions. -/
namespace Cd
open PySem L2
abbrev W0 : WX := fun _ _ _ _ => False
section
variable {N : Nm} {W : WX} {F B H F' B' H' F1 H1 F2 H2 F0 : Hp} {env : Env} {σ σ1 σ2 : St} {fp : List Addr}
theorem T.lend_nt (t : T) : t.lend.nt = true := by
  refine T.nt_iff.mpr ?_
  have : t.lend.flag = Fl.lend t.flag ∨ t.lend.flag = .frz := by cases t <;> first | exact .inl rfl | exact .inr rfl
  rcases this with e | e
  · rw [e]; cases t.flag <;> decide
  · rw [e]; decide
/-- one's own things only looked at: nothing is one's own, all that stands is the ground -/
theorem SlsOk.ro (sb : Same B H) : ∀ {e : Env} {σ : St} {g : List Addr}, SlsOk N F B H e σ g → SlsOk N F H H (ro e) σ []
  | [], _, _, h => ⟨h.1, rfl⟩
  | s :: e, _, _, h => by
    obtain ⟨x, σ', g1, g2, rfl, rfl, h1, h2⟩ := h
    refine ⟨x, σ', [], [], rfl, rfl, ?_, h2.ro sb⟩
    cases s with
    | none => rfl
    | some t => obtain ⟨v, rfl, nt, r⟩ := h1; exact ⟨v, rfl, T.lend_nt t, r.lend sb⟩
theorem Sim.ro (s : Sim N F0 B F H env σ fp) : Sim N F H F H (ro env) σ [] :=
  ⟨Same.rfl', s.fh, Same.rfl', fun a h => .inl h, s.sl.ro s.bh, List.nodup_nil, fun _ z => nomatch z⟩
theorem SlsOk.wipe (i : Nat) : ∀ {e : Env} {σ : St}, SlsOk N F B H e σ [] → SlsOk N F B H (e.set i none) (σ.set i none) []
  | [], σ, h => by rw [h.1]; cases i <;> exact ⟨rfl, rfl⟩
  | s :: e, _, h => by
    obtain ⟨x, σ', g1, g2, rfl, e2, h1, h2⟩ := h
    obtain ⟨rfl, rfl⟩ := List.append_eq_nil_iff.mp e2.symm
    cases i with
    | zero => exact ⟨none, σ', [], [], rfl, rfl, rfl, h2⟩
    | succ i => exact ⟨x, σ'.set i none, [], [], rfl, rfl, h1, h2.wipe i⟩
theorem SlsOk.wipes : ∀ (vs : List Nat) {e : Env} {σ : St}, SlsOk N F B H e σ [] → SlsOk N F B H (wipeE e vs) (L2.wipe σ vs) []
  | [], _, _, h => h
  | v :: vs, _, _, h => (SlsOk.wipes vs h).wipe v
theorem wipe_get {σ : St} : ∀ {vs : List Nat} {i : Nat}, i ∈ vs → ∀ x, (L2.wipe σ vs)[i]? ≠ some (some x)
  | v :: vs, i, h, x, e => (L2.wipe_some (vs := v :: vs) e).2 h
theorem wipe_same {σ σ' : St} {vs : List Nat} (hl : σ'.length = σ.length) (h : ∀ i, i ∉ vs → σ'[i]? = σ[i]?) : L2.wipe σ' vs = L2.wipe σ vs := by
  refine List.ext_getElem? fun i => ?_
  by_cases hi : i ∈ vs
  · have l1 := L2.wipe_length σ' vs
    have l2 := L2.wipe_length σ vs
    have n1 : ∀ x, (L2.wipe σ' vs)[i]? ≠ some (some x) := wipe_get hi
    have n2 : ∀ x, (L2.wipe σ vs)[i]? ≠ some (some x) := wipe_get hi
    by_cases lt : i < σ.length
    · have a1 : i < (L2.wipe σ' vs).length := by omega
      have a2 : i < (L2.wipe σ vs).length := by omega
      rw [List.getElem?_eq_getElem a1, List.getElem?_eq_getElem a2]
      cases e1 : (L2.wipe σ' vs)[i] with
      | some x => exact absurd (by rw [List.getElem?_eq_getElem a1, e1]) (n1 x)
      | none =>
        cases e2 : (L2.wipe σ vs)[i] with
        | some x => exact absurd (by rw [List.getElem?_eq_getElem a2, e2]) (n2 x)
        | none => rfl
    · rw [List.getElem?_eq_none (by omega), List.getElem?_eq_none (by omega)]
  · rw [L2.wipe_out hi, L2.wipe_out hi, h i hi]
theorem wipe_wipe {σ : St} {vs : List Nat} : L2.wipe (L2.wipe σ vs) vs = L2.wipe σ vs := wipe_same (L2.wipe_length _ _) fun i h => L2.wipe_out h

/-- what a target of a comprehension does: its slots alone change -/
def OnlyG (g : TG) (vs : List Nat) : Prop := ∀ v σ H Q, g v σ H Q → g v σ H fun σ' H' => (σ'.length = σ.length ∧ ∀ i, i ∉ vs → σ'[i]? = σ[i]?) ∧ Q σ' H'
def OnlyGs (g : TGs) (vs : List Nat) : Prop := ∀ xs σ H Q, g xs σ H Q → g xs σ H fun σ' H' => (σ'.length = σ.length ∧ ∀ i, i ∉ vs → σ'[i]? = σ[i]?) ∧ Q σ' H'
theorem only_name {i : Nat} {vs : List Nat} (h : i ∈ vs) : OnlyG (gName i) vs := fun v σ H Q q => ⟨⟨List.length_set, fun j hj => List.getElem?_set_ne (by rintro rfl; exact hj h)⟩, q⟩
theorem only_nil {vs : List Nat} : OnlyGs gNil vs := fun xs σ H Q q => ⟨q.1, ⟨rfl, fun _ _ => rfl⟩, q.2⟩

/-- a target whose wish may be weakened -/
def MonoG (g : TG) : Prop := ∀ v σ H Q Q', (∀ σ' H', Q σ' H' → Q' σ' H') → g v σ H Q → g v σ H Q'
def MonoGs (g : TGs) : Prop := ∀ v σ H Q Q', (∀ σ' H', Q σ' H' → Q' σ' H') → g v σ H Q → g v σ H Q'
theorem mono_name {i : Nat} : MonoG (gName i) := fun v σ H Q Q' h q => h _ _ q
theorem mono_nil : MonoGs gNil := fun v σ H Q Q' h q => ⟨q.1, h _ _ q.2⟩
theorem mono_cons {g : TG} {u : TGs} (h1 : MonoG g) (h2 : MonoGs u) : MonoGs (gCons g u) := fun v σ H Q Q' h ⟨x, r, e, q⟩ => ⟨x, r, e, h1 _ _ _ _ _ (fun σ' H' q' => h2 _ _ _ _ _ h q') q⟩
theorem mono_tup {K : PySem.W.Frag} {n : Nat} {u : TGs} (h2 : MonoGs u) : MonoG (L2.gTup K n u) := fun v σ H Q Q' h ⟨a, xs, e, hq, hl, q⟩ => ⟨a, xs, e, hq, hl, h2 _ _ _ _ _ h q⟩
theorem only_cons {g : TG} {u : TGs} {vs : List Nat} (m1 : MonoG g) (m2 : MonoGs u) (h1 : OnlyG g vs) (h2 : OnlyGs u vs) : OnlyGs (gCons g u) vs := by
  rintro xs σ H Q ⟨x, r, e, q⟩
  refine ⟨x, r, e, m1 _ _ _ _ _ (fun σ' H' ⟨a, q'⟩ => m2 _ _ _ _ _ (fun σ2 H2 ⟨b, q2⟩ => ⟨⟨b.1.trans a.1, fun i hi => (b.2 i hi).trans (a.2 i hi)⟩, q2⟩) (h2 _ _ _ _ q')) (h1 _ _ _ _ q)⟩
theorem only_tup {K : PySem.W.Frag} {n : Nat} {u : TGs} {vs : List Nat} (h2 : OnlyGs u vs) : OnlyG (L2.gTup K n u) vs := fun v σ H Q ⟨a, xs, e, hq, hl, q⟩ => ⟨a, xs, e, hq, hl, h2 _ _ _ _ q⟩

theorem does_yes : DoesT N W tYes pYes := fun F0 B F H env σ fp Q s w => by
  obtain ⟨b, e, q⟩ := w.nowB s.fh
  cases e
  exact q

theorem Rs.snoc {u : T} {y : V} {g5 : List Addr} : ∀ {ts : List T} {vs : List V} {g : List Addr}, Rs N F B H ts vs g → R N F B H u y g5 → Rs N F B H (ts ++ [u]) (vs ++ [y]) (g ++ g5)
  | [], _, _, h, r => by
    obtain ⟨rfl, rfl⟩ := h
    exact ⟨y, [], g5, [], rfl, by simp, r, rfl, rfl⟩
  | t :: ts, _, _, h, r => by
    obtain ⟨v, vs', g1, g2, rfl, rfl, h1, h2⟩ := h
    exact ⟨v, vs' ++ [y], g1, g2 ++ g5, rfl, by rw [List.append_assoc], h1, h2.snoc r⟩
/-- [elt for tg in src if c] -/
theorem does_lc {wi : TI} {g : TG} {tt : TT} {te : TE} {src : A} {tg : Tg} {c elt : P} {vs : List Nat} (hw : DoesW N W wi src) (hg : DoesG N [] g tg) (hm : MonoG g) (ho : OnlyG g vs) (hc : DoesT N W0 tt c) (he : DoesP N W0 te elt) :
    DoesP N W (tLc wi g tt te vs) (pLc src tg c elt vs) := by
  intro F0 B F H env σ fp Q s w
  refine hw F H F H (ro env) σ [] _ s.ro ?_
  have we : pLc src tg c elt vs env = (match src (ro env) with
    | .ok ts => (match lcGo tg c elt (wipeE (ro env) vs) ts with | .ok us => .ok (.lst .own us) | _ => .bad)
    | .exc x => .exc x | .bad => .bad) := rfl
  rw [we] at w
  revert w
  cases es : src (ro env) with
  | bad => exact fun w => w
  | exc x => exact fun w => w
  | ok ts =>
    intro w F1 H1 J e1 wk D hD
    dsimp only at w
    cases eg : lcGo tg c elt (wipeE (ro env) vs) ts with
    | bad => rw [eg] at w; exact w.elim
    | exc x => rw [eg] at w; exact w.elim
    | ok us =>
      rw [eg] at w
      have hDF : F1 D = none := none_of_not fun z => (by
        cases q : F1 D with
        | none => exact z q
        | some o => rw [e1.fh D o q] at hD; cases hD)
      -- the state between two turns
      refine ⟨fun i m H' => ∃ F' acc as gs rest, H' D = some (.lst acc) ∧ Rs N F' H' H' as acc gs ∧ as.all T.solid = true ∧ gs.Nodup ∧ D ∉ gs ∧ (∀ a ∈ gs, H1 a = none ∧ F' a = none) ∧ F' D = none ∧
        Same F1 F' ∧ Same F' H' ∧ Same H1 H' ∧ (∀ a, F' a ≠ none → F1 a ≠ none ∨ H1 a = none) ∧ i + m = ts.length ∧ as.length ≤ i ∧ lcGo tg c elt (wipeE (ro env) vs) (ts.drop i) = .ok rest ∧ us = as ++ rest,
        ⟨ts.length, F1, [], [], [], us, upd_same, ⟨rfl, rfl⟩, rfl, List.nodup_nil, fun z => (nomatch z), fun _ z => (nomatch z), hDF, Same.rfl', fun a o q => ?_, fun a o q => ?_, fun a q => .inl q, by omega, Nat.le_refl _, eg, rfl⟩, ?_⟩
      · rw [upd_ne (fun z => by rw [z, hDF] at q; cases q)]; exact e1.fh a o q
      · rw [upd_ne (fun z => by rw [z, hD] at q; cases q)]; exact q
      rintro i m H' ⟨F', acc, as, gs, rest, hA, hR, hso, nd, nD, new, hDn, sf, fh, sh, fr, em, hlen, hgo, hus⟩
      have sHH' : Same H H' := e1.h.trans sh
      by_cases hi : i < ts.length
      · refine .inr ⟨wk.go F' H' i hi sf fh sHH', fun H2 => ∃ m', m' < m ∧ ∃ F' acc as gs rest, H2 D = some (.lst acc) ∧ Rs N F' H2 H2 as acc gs ∧ as.all T.solid = true ∧ gs.Nodup ∧ D ∉ gs ∧ (∀ a ∈ gs, H1 a = none ∧ F' a = none) ∧ F' D = none ∧
            Same F1 F' ∧ Same F' H2 ∧ Same H1 H2 ∧ (∀ a, F' a ≠ none → F1 a ≠ none ∨ H1 a = none) ∧ (i + 1) + m' = ts.length ∧ as.length ≤ i + 1 ∧ lcGo tg c elt (wipeE (ro env) vs) (ts.drop (i + 1)) = .ok rest ∧ us = as ++ rest,
          fun H2 h => h, fun x H2 y => ?_⟩
        obtain ⟨t, F2, et, ex, r⟩ := wk.yld F' H' i x H2 hi sf fh sHH' y
        have ed : ts.drop i = t :: ts.drop (i + 1) := by
          obtain ⟨h1, h2⟩ := List.getElem?_eq_some_iff.mp et
          rw [List.drop_eq_getElem_cons h1, h2]
        rw [ed] at hgo
        have wg : lcGo tg c elt (wipeE (ro env) vs) (t :: ts.drop (i + 1)) = (match tg.put t (wipeE (ro env) vs) with
          | none => .bad
          | some e1 => match c e1 with
            | .ok (.bl true) => (match elt e1 with
              | .ok u => if u.solid then (match lcGo tg c elt (wipeE (ro env) vs) (ts.drop (i + 1)) with | .ok us => .ok (u :: us) | .exc x => .exc x | .bad => .bad) else .bad
              | _ => .bad)
            | .ok (.bl false) => lcGo tg c elt (wipeE (ro env) vs) (ts.drop (i + 1))
            | _ => .bad) := rfl
        rw [wg] at hgo
        -- the ground: the heap without the new list and its items' cells
        let G : Hp := fun a => if a = D ∨ a ∈ gs then none else H2 a
        have gG : ∀ {a : Addr}, a ≠ D → a ∉ gs → G a = H2 a := fun h1 h2 => if_neg (by rintro (z | z); exact h1 z; exact h2 z)
        have H1G : Same H1 G := fun a o q => by
          have n1 : a ≠ D := fun z => by rw [z, hD] at q; cases q
          have n2 : a ∉ gs := fun z => by rw [(new a z).1] at q; cases q
          rw [gG n1 n2]; exact ex.h a o (sh a o q)
        have GH : Same G H2 := fun a o q => by
          have : ¬ (a = D ∨ a ∈ gs) := fun z => by have q' : (if a = D ∨ a ∈ gs then none else H2 a) = some o := q; rw [if_pos z] at q'; cases q'
          have q' : (if a = D ∨ a ∈ gs then none else H2 a) = some o := q
          rw [if_neg this] at q'; exact q'
        have sl0 : SlsOk N F2 G H2 (ro env) σ [] := (s.sl.ro s.bh).grow ((e1.f.trans sf).trans ex.f) (e1.h.trans H1G) ((sHH').trans ex.h)
        have S2 : Sim N F2 G F2 H2 (wipeE (ro env) vs) (L2.wipe σ vs) [] := ⟨Same.rfl', ex.fh, GH, fun a h => .inl h, SlsOk.wipes vs sl0, List.nodup_nil, fun _ z => nomatch z⟩
        have rG : R N F2 G H2 t x [] := by
          by_cases hn : t.nt = true
          · cases hf : t.flag with
            | own => exact r.move Same.rfl' (fun _ _ _ q => q) (T.solid_iff.mpr (.inl hf))
            | frz => exact r.move Same.rfl' (fun _ _ _ q => q) (T.solid_iff.mpr (.inr hf))
            | tmp => exact absurd hf (T.nt_iff.mp hn)
            | bor => exact r.grow Same.rfl' (e1.h.trans H1G) Same.rfl'
          · exact r.grow Same.rfl' (e1.h.trans H1G) Same.rfl'
        refine hm _ _ _ _ _ ?_ (ho _ _ _ _ (hg F2 G F2 H2 _ _ [] t x [] (fun σ2 H3 => H3 = H2 ∧ ∃ env2, tg.put t (wipeE (ro env) vs) = some env2 ∧ Sim N F2 G F2 H2 env2 σ2 []) S2 ⟨rG, List.nodup_nil, fun _ z => nomatch z⟩ ?_))
        · rintro σ2 H3 ⟨⟨hl2, on2⟩, rfl, env2, ep, s2⟩
          refine ⟨(wipe_same hl2 on2).trans wipe_wipe, ?_⟩
          rw [ep] at hgo
          dsimp only at hgo
          have sF2 : Same F1 F2 := sf.trans ex.f
          have fr2 : ∀ a, F2 a ≠ none → F1 a ≠ none ∨ H1 a = none := fun a q => by
            rcases ex.new a q with q | q
            · exact fr a q
            · exact .inr (sh.free q)
          have hA2 : H3 D = some (.lst acc) := ex.h D _ hA
          have D2 : F2 D = none := ex.stays hDn (by rw [hA]; simp)
          have new2 : ∀ a ∈ gs, H1 a = none ∧ F2 a = none := fun a ha => ⟨(new a ha).1, ex.stays (new a ha).2 (hR.cells a ha)⟩
          have hR2 : Rs N F2 H3 H3 as acc gs := hR.grow ex.f ex.h ex.h
          refine hc F2 G F2 H3 env2 σ2 [] _ s2 ?_
          revert hgo
          generalize c env2 = rc
          intro hgo
          cases rc with
          | bad => cases hgo
          | exc x => cases hgo
          | ok rc =>
            cases rc with
            | bl bc =>
              cases bc with
              | false =>
                dsimp only at hgo
                intro F4 H4 v4 g4 e4 k4
                refine ⟨false, k4.r.1, iteF ⟨m - 1, by omega, F4, acc, as, gs, rest, e4.h D _ hA2, hR2.grow e4.f e4.h e4.h, hso, nd, nD, fun a ha => ⟨(new2 a ha).1, e4.stays (new2 a ha).2 (hR2.cells a ha)⟩, e4.stays D2 (by rw [hA2]; simp), sF2.trans e4.f, e4.fh, (sh.trans ex.h).trans e4.h, fun a q => ?_, by omega, by omega, hgo, hus⟩⟩
                rcases e4.new a q with q | q
                · exact fr2 a q
                · exact .inr ((sh.trans ex.h).free q)
              | true =>
                dsimp only at hgo
                intro F4 H4 v4 g4 e4 k4
                refine ⟨true, k4.r.1, iteT (he F2 G F4 H4 env2 σ2 [] _ (s2.ext e4) ?_)⟩
                revert hgo
                generalize elt env2 = re
                intro hgo
                cases re with
                | bad => cases hgo
                | exc x => cases hgo
                | ok u =>
                  dsimp only at hgo
                  by_cases hu : u.solid = true
                  · rw [if_pos hu] at hgo
                    intro F5 H5 y g5 e5 k5
                    have e45 := e4.trans e5
                    have hA5 : H5 D = some (.lst acc) := e45.h D _ hA2
                    have len5 : acc.length < sizeLine := by
                      have a1 := hR.len
                      have a2 := wk.line
                      omega
                    refine ⟨acc, hA5, len5, ?_⟩
                    revert hgo
                    generalize lcGo tg c elt (wipeE (ro env) vs) (ts.drop (i + 1)) = rr
                    intro hgo
                    cases rr with
                    | bad => cases hgo
                    | exc x => cases hgo
                    | ok rest' =>
                      cases hgo
                      -- the new item's cells are new
                      have n5 : ∀ a ∈ g5, H4 a = none ∧ F5 a = none := k5.new
                      have n5D : D ∉ g5 := fun z => by
                        have q := (n5 D z).1
                        rw [e4.h D _ hA2] at q; cases q
                      have n5g : ∀ a ∈ gs, a ∉ g5 := fun a ha z => (hR2.grow e4.f e4.h e4.h).cells a ha (n5 a z).1
                      have D5 : F5 D = none := e45.stays D2 (by rw [hA2]; simp)
                      have keep : ∀ a, a ≠ D → ∀ o, H5 a = some o → (upd H5 D (.lst (acc ++ [y]))) a = some o := fun a ha o q => by rw [upd_ne ha]; exact q
                      have hR5 : Rs N F5 (upd H5 D (.lst (acc ++ [y]))) (upd H5 D (.lst (acc ++ [y]))) as acc gs := Rs.move e45.f (fun a ha o q => keep a (fun z => nD (z ▸ ha)) o (e45.h a o q)) hso hR2
                      have hU5 : R N F5 (upd H5 D (.lst (acc ++ [y]))) (upd H5 D (.lst (acc ++ [y]))) u y g5 := k5.r.move Same.rfl' (fun a ha o q => keep a (fun z => n5D (z ▸ ha)) o q) hu
                      refine ⟨m - 1, by omega, F5, acc ++ [y], as ++ [u], gs ++ g5, rest', upd_same, Rs.snoc hR5 hU5, by rw [List.all_append, hso]; simp [hu], List.nodup_append.mpr ⟨nd, k5.nd, fun a ha b hb z => n5g a ha (z ▸ hb)⟩, fun z => (List.mem_append.mp z).elim nD n5D, fun a ha => ?_, D5, sF2.trans e45.f, fun a o q => ?_, fun a o q => ?_, fun a q => ?_, by omega, by rw [List.length_append, List.length_singleton]; omega, rfl, by rw [hus, List.append_assoc]; rfl⟩
                      · rcases List.mem_append.mp ha with z | z
                        · exact ⟨(new2 a z).1, e45.stays (new2 a z).2 (hR2.cells a z)⟩
                        · exact ⟨((sh.trans ex.h).trans e4.h).free (n5 a z).1, (n5 a z).2⟩
                      · exact keep a (fun z => by rw [z, D5] at q; cases q) o (e45.fh a o q)
                      · exact keep a (fun z => by rw [z, hD] at q; cases q) o (e45.h a o (ex.h a o (sh a o q)))
                      · rcases e45.new a q with q | q
                        · exact fr2 a q
                        · exact .inr ((sh.trans ex.h).free q)
                  · rw [if_neg hu] at hgo; cases hgo
            | _ => cases hgo
        · cases ep : tg.put t (wipeE (ro env) vs) with
          | none => rw [ep] at hgo; cases hgo
          | some e4 => exact fun σ2 fp2 s2 _ sub => ⟨rfl, e4, rfl, by
              have : fp2 = [] := List.eq_nil_iff_forall_not_mem.mpr fun a h => (sub a h).elim (fun q => nomatch q) (fun q => nomatch q)
              rw [this] at s2; exact s2⟩
      · have e : i = ts.length := by omega
        subst e
        rw [List.drop_length] at hgo
        cases hgo
        rw [List.append_nil] at hus
        subst hus
        refine .inl ⟨wk.stop F' H' sf fh sHH', w F' H' (.ref D) (D :: gs) ⟨e1.f.trans sf, sHH', fh, fun a q => ?_⟩ ⟨⟨D, acc, rfl, ?_, gs, rfl, hA, hso, Rs.move Same.rfl' (fun _ _ _ q => q) hso hR⟩, List.nodup_cons.mpr ⟨nD, nd⟩, fun a ha => ?_⟩⟩
        · rcases fr a q with q | q
          · exact e1.new a q
          · exact .inr (e1.h.free q)
        · exact Nat.le_trans hlen wk.line
        · rcases List.mem_cons.mp ha with rfl | ha
          · exact ⟨e1.h.free hD, hDn⟩
          · exact ⟨e1.h.free (new a ha).1, (new a ha).2⟩
end
end Cd

set_option Elab.async false
set_option linter.all false
set_option maxRecDepth 100000
/-! Calls, defs. -/
namespace Cd
open PySem L2

def WantsF (N : Nm) (F B : Hp) (vs : List V) (io : List Nat) (res : FRes) (Q : VK) (E : XK) : Prop := match res with
  | .ret r os => ∀ F' H' fo v g, Same F F' → Same F' H' → Same B H' → (∀ a, F' a ≠ none → F a ≠ none ∨ B a = none) → Rs N F' B H' os (io.map fun i => vs.getD i .non) fo → os.all (fun t => t.flag == .own) = true →
      (∀ a ∈ fo, F' a = none ∧ B a = none) → Beside N F' B H' fo r v g → Q v H'
  | .exc x os => ∀ F' H' fo d, Same F F' → Same F' H' → Same B H' → (∀ a, F' a ≠ none → F a ≠ none ∨ B a = none) → Rs N F' B H' os (io.map fun i => vs.getD i .non) fo → os.all (fun t => t.flag == .own) = true →
      (∀ a ∈ fo, F' a = none ∧ B a = none) → fo.Nodup → ExR N F' x d → E (.ref (N.cls x.c)) d H'
  | .bad => False
/-- the promise of a def that does what m says of its arguments; those at io are changed -/
def spD (N : Nm) (n : Nat) (io : List Nat) (m : List T → FRes) : Sp := fun vs H Q E => vs.length = n ∧ ∃ F B ts fp, Same F H ∧ Same B H ∧ Rs N F B H ts vs fp ∧ ts.all T.nt = true ∧ fp.Nodup ∧ (∀ a ∈ fp, F a = none ∧ B a = none) ∧ WantsF N F B vs io (m ts) Q E

section
variable {N : Nm} {W : WX} {ps : List Nat} {F B H F' B' H' F1 H1 F2 H2 F0 : Hp} {env : Env} {σ σ1 σ2 : St} {fp : List Addr}
theorem Rs.slots : ∀ {ts : List T} {vs : List V} {g : List Addr}, ts.all T.nt = true → Rs N F B H ts vs g → SlsOk N F B H (ts.map some) (vs.map some) g
  | [], _, _, _, h => by rw [h.1]; exact ⟨rfl, h.2⟩
  | t :: ts, _, _, nt, h => by
    obtain ⟨v, vs', g1, g2, rfl, rfl, h1, h2⟩ := h
    rw [List.all_cons, Bool.and_eq_true] at nt
    exact ⟨some v, vs'.map some, g1, g2, rfl, rfl, ⟨v, rfl, nt.1, h1⟩, h2.slots nt.2⟩
theorem SlsOk.pad (k : Nat) : ∀ {e : Env} {σ : St} {g : List Addr}, SlsOk N F B H e σ g → SlsOk N F B H (e ++ List.replicate k none) (σ ++ List.replicate k none) g
  | [], _, _, h => by
    obtain ⟨rfl, rfl⟩ := h
    rw [List.nil_append, List.nil_append]
    induction k with
    | zero => exact ⟨rfl, rfl⟩
    | succ k ih => exact ⟨none, _, [], [], rfl, rfl, rfl, ih⟩
  | s :: e, _, _, h => by
    obtain ⟨x, σ', g1, g2, rfl, rfl, h1, h2⟩ := h
    exact ⟨x, σ' ++ List.replicate k none, g1, g2, rfl, rfl, h1, h2.pad k⟩
/-- the changed parameters as they stand at the end -/
theorem outs_ok : ∀ {e : Env} {σ : St} {fp : List Addr} {k : Nat} {io : List Nat} {os : List T}, SlsOk N F B H e σ fp → outsAt k e io = some os →
    ∃ vs g, Rs N F B H os vs g ∧ os.all (fun t => t.flag == .own) = true ∧ (∀ f : Nat → Option (Option V), (∀ i, f (k + i) = σ[i]?) → io.map f = vs.map (fun v => some (some v))) ∧ g.Sublist fp
  | e, σ, fp, k, [], os, s, h => by
    have : os = [] := by cases e <;> (cases h; rfl)
    subst this
    exact ⟨[], [], ⟨rfl, rfl⟩, rfl, fun _ _ => rfl, List.nil_sublist _⟩
  | [], σ, fp, k, i :: is, os, s, h => by cases h
  | so :: e, _, _, k, i :: is, os, s, h => by
    obtain ⟨x, σ', g1, g2, rfl, rfl, h1, h2⟩ := s
    unfold outsAt at h
    by_cases c : i = k
    · subst c
      rw [if_pos rfl] at h
      cases so with
      | none => cases h
      | some t =>
        dsimp only at h
        cases hf : t.flag with
        | own =>
          rw [hf] at h
          dsimp only at h
          cases er : outsAt (i + 1) e is with
          | none => rw [er] at h; cases h
          | some ts =>
            rw [er] at h
            cases h
            obtain ⟨v, rfl, nt, r⟩ := h1
            obtain ⟨vs, g, r2, o2, m2, sub⟩ := outs_ok h2 er
            refine ⟨v :: vs, g1 ++ g, ⟨v, vs, g1, g, rfl, rfl, r, r2⟩, by rw [List.all_cons, hf, o2]; rfl, fun f hfx => ?_, List.Sublist.append (List.Sublist.refl _) sub⟩
            have m3 := m2 f fun j => by
              have q := hfx (j + 1)
              rw [show i + 1 + j = i + (j + 1) by omega, q]
              simp
            rw [List.map_cons, List.map_cons, m3, show f i = some (some v) from (hfx 0).trans (by simp)]
        | frz => rw [hf] at h; cases h
        | bor => rw [hf] at h; cases h
        | tmp => rw [hf] at h; cases h
    · rw [if_neg c] at h
      obtain ⟨vs, g, r2, o2, m2, sub⟩ := outs_ok h2 h
      exact ⟨vs, g, r2, o2, fun f hfx => m2 f fun j => by have := hfx (j + 1); rw [show k + 1 + j = k + (j + 1) by omega, this]; simp, sub.trans (List.sublist_append_right _ _)⟩

/-! ### defs -/
structure Ctx (X : Cx) (W : WX) (k : Nat) : Prop where
  tk : Takes X W
  po : PassesOwn (model X.prog X.w) X.A X.env X.xe
  calm : X.calm = true
  room : Room k X.A

/-- a def does what its body's m says -/
theorem def_ok {P : Program} {w : World} {mg : Str → Option Value} {base : Heap} {x qual : Str} {st : Stmt} {f : Addr} {fd : FuncData} {NN qs : List Str} {k kx n : Nat} {io : List Nat} {body : M} (D : Fun N.K x qual st f fd) (S : FnScope NN qs (defScope st))
    (hn : qs.length = n) (hk : NN.length = n + kx) (hio : ∀ i ∈ io, i < n)
    (hb : ∀ (cdv : Value) (A : Around) (outer : List PySem.Env) (s : Shared) (H : Hp) (E : XK), Ctx (cxOf (L2.CX P w) P w N.K mg base NN qual (defScope st) f cdv A outer s H E) (fun cls d _ H => E cls d H) k →
      ∃ t, PSs (cxOf (L2.CX P w) P w N.K mg base NN qual (defScope st) f cdv A outer s H E) (defBody st) t ∧ DoesS N (fun cls d _ H => E cls d H) io t body) :
    FnOk P w N.K mg base (L2.CX P w) (k + 1) f fd qs (spD N n io (defM n kx io body)) := by
  refine D.okX S (fun vs H Q E h => h.1.trans hn.symm) (fun cdv A outer s H vs Q E hr h => ?_)
  obtain ⟨t, ht, hd⟩ := hb cdv A outer s H E ⟨takes_of rfl rfl rfl rfl, passes_of rfl, rfl, hr⟩
  refine ⟨t, ht, ?_⟩
  obtain ⟨hl, F, B, ts, fp, fh, bh, hR, nt, nd, out, w⟩ := h
  have lt : ts.length = n := hR.len.trans hl
  have sl : SlsOk N F B H (ts.map some ++ List.replicate kx none) (L2.start NN vs) fp := by
    unfold L2.start
    rw [show NN.length - vs.length = kx by omega]
    exact (hR.slots nt).pad kx
  have S0 : Sim N F B F H (ts.map some ++ List.replicate kx none) (L2.start NN vs) fp := ⟨Same.rfl', fh, bh, fun a h => .inl h, sl, nd, out⟩
  refine hd F B F H _ _ fp _ S0 ?_
  have we : defM n kx io body ts = if ts.length = n then (match body (ts.map some ++ List.replicate kx none) with
    | .next e => (match outs e io with | some os => .ret .non os | none => .bad)
    | .ret t e => (match outs e io with | some os => .ret t os | none => .bad)
    | .exc x e => (match outs e io with | some os => .exc x os | none => .bad)
    | _ => .bad) else .bad := rfl
  rw [we, if_pos lt] at w
  -- the values of the parameters io at the end are those of the beginning
  have vals : ∀ {σ' : St} {us : List V}, Pin io (L2.start NN vs) σ' → io.map (fun i => σ'[i]?) = us.map (fun v => some (some v)) → us = io.map fun i => vs.getD i .non := by
    intro σ' us pin e
    have e2 : io.map (fun i => σ'[i]?) = (io.map fun i => vs.getD i .non).map (fun v => some (some v)) := by
      rw [List.map_map]
      refine List.map_congr_left fun i hi => ?_
      rw [pin i hi]
      have hv : i < vs.length := by rw [hl]; exact hio i hi
      unfold L2.start
      rw [List.getElem?_append_left (by simpa using hv), List.getElem?_map, List.getElem?_eq_getElem hv]
      simp [List.getD, List.getElem?_eq_getElem hv]
    have e3 := e.symm.trans e2
    exact (List.map_inj_right fun a b h => by simpa using h).mp e3
  revert w
  cases body (ts.map some ++ List.replicate kx none) with
  | bad => exact fun w => w
  | brk e => exact fun w => w.elim
  | cont e => exact fun w => w.elim
  | next e =>
    dsimp only
    cases eo : outs e io with
    | none => exact fun w => w.elim
    | some os =>
      intro w F' H' σ' fp' s' sf p
      obtain ⟨us, g, r2, o2, m2, sub⟩ := outs_ok s'.sl eo
      have ev := vals p (m2 (fun i => σ'[i]?) fun i => by rw [Nat.zero_add])
      subst ev
      exact w F' H' g .non [] sf s'.fh s'.bh s'.fr r2 o2 (fun a ha => s'.out a (sub.subset ha)) ⟨⟨rfl, rfl⟩, by rw [List.append_nil]; exact s'.nd.sublist sub, fun _ z => nomatch z⟩
  | ret t e =>
    dsimp only
    cases eo : outs e io with
    | none => exact fun w => w.elim
    | some os =>
      intro w F' H' σ' fp' v g0 s' sf p k
      obtain ⟨us, g, r2, o2, m2, sub⟩ := outs_ok s'.sl eo
      have ev := vals p (m2 (fun i => σ'[i]?) fun i => by rw [Nat.zero_add])
      subst ev
      exact w F' H' g v g0 sf s'.fh s'.bh s'.fr r2 o2 (fun a ha => s'.out a (sub.subset ha)) ⟨k.r, k.nd.sublist (List.Sublist.append sub (List.Sublist.refl _)), k.out⟩
  | exc x e =>
    dsimp only
    cases eo : outs e io with
    | none => exact fun w => w.elim
    | some os =>
      intro w F' H' σ' fp' d s' sf p k
      obtain ⟨us, g, r2, o2, m2, sub⟩ := outs_ok s'.sl eo
      have ev := vals p (m2 (fun i => σ'[i]?) fun i => by rw [Nat.zero_add])
      subst ev
      exact w F' H' g d sf s'.fh s'.bh s'.fr r2 o2 (fun a ha => s'.out a (sub.subset ha)) (s'.nd.sublist sub) k

/-! ### a call that changes nothing -/
theorem gCall_len {n kx : Nat} {io : List Nat} {body : M} {ts : List T} (h : defM n kx io body ts ≠ .bad) : ts.length = n := by
  have we : defM n kx io body ts = if ts.length = n then (match body (ts.map some ++ List.replicate kx none) with
    | .next e => (match outs e io with | some os => .ret .non os | none => .bad)
    | .ret t e => (match outs e io with | some os => .ret t os | none => .bad)
    | .exc x e => (match outs e io with | some os => .exc x os | none => .bad)
    | _ => .bad) else .bad := rfl
  by_cases c : ts.length = n
  · exact c
  · rw [we, if_neg c] at h; exact absurd rfl h
theorem call_wants {n : Nat} {io : List Nat} {m : List T → FRes} {xs : List T} {vs : List V} {g : List Addr} {Q : VK} {WR' : WR} {E : XK} (hm : ∀ ts, m ts ≠ .bad → ts.length = n) (hE : ∀ c d H, WR' c d H → E c d H) (fh : Same F H) (bh : Same B H) (hR : Rs N F B H xs vs g) (w : Wants N WR' F B H (gCall m xs) Q) : spD N n io m vs H Q E := by
  have hL : Rs N F H H (xs.map T.lend) vs [] := Rs.map (fun t v fp r => r.lend bh) hR
  have we : gCall m xs = (match m (xs.map T.lend) with
    | .ret t _ => .ok t.back
    | .exc x _ => .exc x
    | .bad => .bad) := rfl
  rw [we] at w
  have nb : m (xs.map T.lend) ≠ .bad := fun z => by rw [z] at w; exact w
  refine ⟨hL.len.symm.trans (hm _ nb), F, H, xs.map T.lend, [], fh, Same.rfl', hL, ?_, List.nodup_nil, fun _ z => (nomatch z), ?_⟩
  · rw [List.all_map]; exact List.all_eq_true.mpr fun t _ => T.lend_nt t
  · revert w
    cases m (xs.map T.lend) with
    | bad => exact fun w => w
    | ret r os =>
      intro w F' H' fo v g' sf fh' bh' fr _ _ _ k
      exact w F' H' v g' ⟨sf, bh', fh', fr⟩ ⟨k.r.back bh', (List.nodup_append.mp k.nd).2.1, fun a ha => ⟨(k.out a ha).2, (k.out a ha).1⟩⟩
    | exc x os =>
      intro w F' H' fo d sf fh' bh' fr _ _ _ _ k
      exact hE _ _ _ (w F' H' d ⟨sf, bh', fh', fr⟩ k)
theorem does_call {n : Nat} {io : List Nat} {m : List T → FRes} {t : TA} {p : A} (hm : ∀ ts, m ts ≠ .bad → ts.length = n) (ha : DoesA N W t p) : DoesP N W (tCallS (spD N n io m) (WE W) t) (pA (gCall m) p) := by
  intro F0 B F H env σ fp Q s w
  refine ha F0 B F H env σ fp _ s ?_
  have we : pA (gCall m) p env = (p env).bind (gCall m) := rfl
  rw [we] at w
  cases e : p env with
  | bad => rw [e] at w; exact w
  | exc x => rw [e] at w; exact w
  | ok xs =>
    rw [e] at w
    exact fun F1 H1 vs g e1 k1 _ _ => call_wants hm (fun _ _ _ h => h) e1.fh (s.bh.trans e1.h) k1 (Wants.after w e1)
/-! ### fields -/
theorem fldOf_lookup {n : Nat} (inj : ∀ a b, N.att a = N.att b → a = b) : ∀ {ns : List Nat} {ts : List T} {vs : List V} {g : List Addr} {t : T}, Rs N F B H ts vs g → fldAt ns ts n = some t → ∃ v g', (fldsOf N ns vs).lookup (N.att n) = some v ∧ R N F B H t v g'
  | [], _, _, _, _, _, h => by cases h
  | _ :: _, [], _, _, _, _, h => by cases h
  | m :: ns, u :: ts, _, _, t, hR, h => by
    obtain ⟨v, vs', g1, g2, rfl, rfl, h1, h2⟩ := hR
    have we : fldAt (m :: ns) (u :: ts) n = if m = n then some u else fldAt ns ts n := rfl
    rw [we] at h
    by_cases c : m = n
    · subst c
      rw [if_pos rfl] at h
      cases h
      exact ⟨v, g1, by simp [fldsOf], h1⟩
    · rw [if_neg c] at h
      obtain ⟨v', g', l, r⟩ := fldOf_lookup inj h2 h
      refine ⟨v', g', ?_, r⟩
      have ne : (N.att n == N.att m) = false := beq_eq_false_iff_ne.mpr fun z => c (inj _ _ z).symm
      show List.lookup (N.att n) ((N.att m, v) :: (fldsOf N ns vs')) = _
      rw [List.lookup_cons, ne]
      exact l
theorem R.inst {f : Fl} {c : Nat} {ns : List Nat} {ts : List T} {v : V} {fp : List Addr} (sf : Same F H) (sb : Same B H) (h : R N F B H (.ins f c ns ts) v fp) : ∃ a dx vs, v = .ref a ∧ H a = some (.ins (N.cls c) dx (fldsOf N ns vs)) ∧ ns.length = ts.length ∧ Rs N F B H (ts.map (T.of f)) vs [] := by
  obtain ⟨a, dx, vs, rfl, l, h⟩ := h
  cases f with
  | own => obtain ⟨g, rfl, h1, _, _, h3⟩ := h; exact ⟨a, dx, vs, rfl, h1, l, Rs.map (fun t v fp r => r.asT sb _) h3⟩
  | frz => obtain ⟨_, h1, g, h3⟩ := h; exact ⟨a, dx, vs, rfl, sf _ _ h1, l, Rs.map (fun t v fp r => by rw [show T.of .frz t = t.fl1 (fun _ => .frz) from T.fl1_eq (by cases t.flag <;> rfl)]; exact r.asF _ _) h3⟩
  | bor => obtain ⟨_, h1, g, h3⟩ := h; exact ⟨a, dx, vs, rfl, sb _ _ h1, l, Rs.map (fun t v fp r => r.asB _) h3⟩
  | tmp => obtain ⟨_, h1, g, h3⟩ := h; exact ⟨a, dx, vs, rfl, h1, l, Rs.map (fun t v fp r => r.asT Same.rfl' _) h3⟩
theorem fldAt_map {f : T → T} {n : Nat} : ∀ {ns : List Nat} {ts : List T}, fldAt ns (ts.map f) n = (fldAt ns ts n).map f
  | [], _ => rfl
  | _ :: _, [] => rfl
  | m :: ns, t :: ts => by
    show (if m = n then some (f t) else fldAt ns (ts.map f) n) = (if m = n then some t else fldAt ns ts n).map f
    rw [fldAt_map]; split <;> rfl
theorem Rs.nil_get {ts : List T} {vs : List V} {g : List Addr} (h : Rs N F B H ts vs g) (e : g = []) : Rs N F B H ts vs [] := by subst e; exact h
theorem fldOf_lookup0 {n : Nat} (inj : ∀ a b, N.att a = N.att b → a = b) {ns : List Nat} {ts : List T} {vs : List V} {t : T} (hR : Rs N F B H ts vs []) (h : fldAt ns ts n = some t) : ∃ v, (fldsOf N ns vs).lookup (N.att n) = some v ∧ R N F B H t v [] := by
  induction ns generalizing ts vs with
  | nil => cases h
  | cons m ns ih =>
    cases ts with
    | nil => cases h
    | cons u ts =>
      obtain ⟨v, vs', g1, g2, rfl, e2, h1, h2⟩ := hR
      obtain ⟨rfl, rfl⟩ := List.append_eq_nil_iff.mp e2.symm
      have we : fldAt (m :: ns) (u :: ts) n = if m = n then some u else fldAt ns ts n := rfl
      rw [we] at h
      by_cases c : m = n
      · subst c
        rw [if_pos rfl] at h
        cases h
        exact ⟨v, by simp [fldsOf], h1⟩
      · rw [if_neg c] at h
        obtain ⟨v', l, r⟩ := ih h2 h
        refine ⟨v', ?_, r⟩
        have ne : (N.att n == N.att m) = false := beq_eq_false_iff_ne.mpr fun z => c (inj _ _ z).symm
        show List.lookup (N.att n) ((N.att m, v) :: (fldsOf N ns vs')) = _
        rw [List.lookup_cons, ne]
        exact l
theorem does_fld {ta : TE} {p : P} {c n : Nat} (inj : ∀ a b, N.att a = N.att b → a = b) (hC : Cls N.K (N.cls c)) (hn : NoAttr N.K (N.cls c) (N.att n)) (hp : DoesP N W ta p) : DoesP N W (tFld N.K ta (N.att n)) (p1 (gFld c n) p) := by
  intro F0 B F H env σ fp Q s w
  refine hp.bind s w fun F1 H1 x v gx s1 e1 k1 w1 => ?_
  cases x with
  | ins f c' ns ts =>
    have we : gFld c n (.ins f c' ns ts) = if c' = c then (match fldAt ns ts n with | some t => .ok (t.of f) | none => .bad) else .bad := rfl
    rw [we] at w1
    by_cases ec : c' = c
    · subst ec
      rw [if_pos rfl] at w1
      cases ef : fldAt ns ts n with
      | none => rw [ef] at w1; exact w1.elim
      | some t =>
        rw [ef] at w1
        obtain ⟨a, dx, vs, rfl, hA, _, hR⟩ := k1.r.inst s1.fh s1.bh
        have hf : fldAt ns (ts.map (T.of f)) n = some (t.of f) := by rw [fldAt_map, ef]; rfl
        obtain ⟨u, l, r⟩ := fldOf_lookup0 inj hR hf
        exact ⟨a, _, dx, _, u, rfl, hA, hC, hn, l, w1.now s1.fh r⟩
    · rw [if_neg ec] at w1; exact w1.elim
  | _ => exact w1.elim
end
end Cd

set_option Elab.async false
set_option linter.all false
set_option maxRecDepth 100000
/-! One thing taken out of its name. -/
namespace Cd
open PySem L2
section
variable {N : Nm} {W : WX} {ps : List Nat} {F B H F' B' H' F1 H1 F2 H2 F0 : Hp} {env : Env} {σ σ1 σ2 : St} {fp : List Addr}
/-- the i-th slot, and the slots with another thing there -/
theorem SlsOk.focus : ∀ {e : Env} {σ : St} {fp : List Addr} {i : Nat} {t : T}, SlsOk N F B H e σ fp → e[i]? = some (some t) →
    ∃ v pre g post, σ[i]? = some (some v) ∧ t.nt = true ∧ R N F B H t v g ∧ fp = pre ++ (g ++ post) ∧
      ∀ (F' B' H' : Hp) (s' : Option T) (g' : List Addr), Same F F' → Same B B' → (∀ b, b ∈ pre ∨ b ∈ post → ∀ o, H b = some o → H' b = some o) → SlOk N F' B' H' s' (some v) g' → SlsOk N F' B' H' (e.set i s') σ (pre ++ (g' ++ post))
  | [], _, _, _, _, _, h => by simp at h
  | s :: e, _, _, 0, t, h, q => by
    obtain ⟨x, σ', g1, g2, rfl, rfl, h1, h2⟩ := h
    simp at q; subst q
    obtain ⟨v, rfl, nt, r⟩ := h1
    refine ⟨v, [], g1, g2, by simp, nt, r, rfl, fun F' B' H' s' g' sf sb k ok => ?_⟩
    exact ⟨some v, σ', g', g2, rfl, rfl, ok, h2.stay sf sb fun a ha o q => k a (.inr ha) o q⟩
  | s :: e, _, _, i + 1, t, h, q => by
    obtain ⟨x, σ', g1, g2, rfl, rfl, h1, h2⟩ := h
    obtain ⟨v, pre, g, post, e1, nt, r, rfl, rb⟩ := h2.focus (i := i) (t := t) (by simpa using q)
    refine ⟨v, g1 ++ pre, g, post, by simpa using e1, nt, r, by rw [List.append_assoc], fun F' B' H' s' g' sf sb k ok => ?_⟩
    refine ⟨x, σ', g1, pre ++ (g' ++ post), rfl, by rw [List.append_assoc], h1.stay sf sb fun a ha o q => k a (.inl (List.mem_append_left _ ha)) o q, rb F' B' H' s' g' sf sb (fun b hb o q => ?_) ok⟩
    rcases hb with hb | hb
    · exact k b (.inl (List.mem_append_right _ hb)) o q
    · exact k b (.inr hb) o q
theorem nodup_mid {pre g post : List Addr} (h : (pre ++ (g ++ post)).Nodup) : (pre ++ post).Nodup ∧ g.Nodup ∧ ∀ a ∈ g, a ∉ pre ∧ a ∉ post := by
  obtain ⟨h1, h2, h3⟩ := List.nodup_append.mp h
  obtain ⟨h4, h5, h6⟩ := List.nodup_append.mp h2
  exact ⟨List.nodup_append.mpr ⟨h1, h5, fun a ha b hb => h3 a ha b (List.mem_append_right _ hb)⟩, h4, fun a ha => ⟨fun z => h3 a z a (List.mem_append_left _ ha) rfl, fun z => h6 a ha a z rfl⟩⟩
theorem nodup_put {pre g post : List Addr} (h : (pre ++ post).Nodup) (hg : g.Nodup) (d : ∀ a ∈ g, a ∉ pre ∧ a ∉ post) : (pre ++ (g ++ post)).Nodup := by
  obtain ⟨h1, h2, h3⟩ := List.nodup_append.mp h
  refine List.nodup_append.mpr ⟨h1, List.nodup_append.mpr ⟨hg, h2, fun a ha b hb z => (d a ha).2 (z ▸ hb)⟩, fun a ha b hb z => ?_⟩
  rcases List.mem_append.mp hb with q | q
  · exact (d b q).1 (z ▸ ha)
  · exact h3 a ha b q z
/-- taken out -/
theorem Sim.take {i : Nat} {t : T} (s : Sim N F0 B F H env σ fp) (e : env[i]? = some (some t)) : ∃ v fp' g, σ[i]? = some (some v) ∧ Sim N F0 B F H (env.set i none) σ fp' ∧ Beside N F B H fp' t v g ∧ t.nt = true ∧ ∀ a, a ∈ fp' ∨ a ∈ g → a ∈ fp := by
  obtain ⟨v, pre, g, post, e1, nt, r, rfl, rb⟩ := s.sl.focus e
  obtain ⟨n1, n2, n3⟩ := nodup_mid s.nd
  refine ⟨v, pre ++ post, g, e1, ⟨s.f0, s.fh, s.bh, s.fr, ?_, n1, fun a ha => s.out a ?_⟩, ⟨r, ?_, fun a ha => s.out a ?_⟩, nt, fun a ha => ?_⟩
  · have := rb F B H none [] Same.rfl' Same.rfl' (fun _ _ _ q => q) rfl
    rwa [List.nil_append] at this
  · rcases List.mem_append.mp ha with z | z
    · exact List.mem_append_left _ z
    · exact List.mem_append_right _ (List.mem_append_right _ z)
  · exact List.nodup_append.mpr ⟨n1, n2, fun a ha b hb z => by
      subst z
      rcases List.mem_append.mp ha with q | q
      · exact (n3 a hb).1 q
      · exact (n3 a hb).2 q⟩
  · exact List.mem_append_right _ (List.mem_append_left _ ha)
  · rcases ha with ha | ha
    · rcases List.mem_append.mp ha with z | z
      · exact List.mem_append_left _ z
      · exact List.mem_append_right _ (List.mem_append_right _ z)
    · exact List.mem_append_right _ (List.mem_append_left _ ha)
/-- put back where nothing is -/
theorem SlsOk.put : ∀ {e : Env} {σ : St} {fp : List Addr} {i : Nat} {s' : Option T} {v : V} {g' : List Addr}, SlsOk N F B H e σ fp → fp.Nodup → σ[i]? = some (some v) → SlOk N F B H s' (some v) g' → g'.Nodup → (∀ a ∈ g', a ∉ fp) →
    ∃ fp', SlsOk N F B H (e.set i s') σ fp' ∧ fp'.Nodup ∧ ∀ a ∈ fp', a ∈ fp ∨ a ∈ g'
  | [], σ, fp, i, s', v, g', h, nd, e, ok, ng, d => by rw [h.1] at e; simp at e
  | s :: e, _, _, 0, s', v, g', h, nd, ev, ok, ng, d => by
    obtain ⟨x, σ', g1, g2, rfl, rfl, h1, h2⟩ := h
    simp at ev; subst ev
    refine ⟨g' ++ g2, ⟨some v, σ', g', g2, rfl, rfl, ok, h2⟩, List.nodup_append.mpr ⟨ng, (List.nodup_append.mp nd).2.1, fun a ha b hb z => d a ha (List.mem_append_right _ (z ▸ hb))⟩, fun a ha => ?_⟩
    rcases List.mem_append.mp ha with z | z
    · exact .inr z
    · exact .inl (List.mem_append_right _ z)
  | s :: e, _, _, i + 1, s', v, g', h, nd, ev, ok, ng, d => by
    obtain ⟨x, σ', g1, g2, rfl, rfl, h1, h2⟩ := h
    obtain ⟨m1, m2, m3⟩ := List.nodup_append.mp nd
    obtain ⟨fp', k, kn, ks⟩ := h2.put (i := i) m2 (by simpa using ev) ok ng fun a ha z => d a ha (List.mem_append_right _ z)
    refine ⟨g1 ++ fp', ⟨x, σ', g1, fp', rfl, rfl, h1, k⟩, List.nodup_append.mpr ⟨m1, kn, fun a ha b hb z => ?_⟩, fun a ha => ?_⟩
    · subst z
      rcases ks a hb with q | q
      · exact m3 a ha a q rfl
      · exact d a q (List.mem_append_left _ ha)
    · rcases List.mem_append.mp ha with z | z
      · exact .inl (List.mem_append_left _ z)
      · rcases ks a z with q | q
        · exact .inl (List.mem_append_right _ q)
        · exact .inr q
theorem Sim.put {i : Nat} {t : T} {v : V} {g : List Addr} (s : Sim N F0 B F H env σ fp) (e : σ[i]? = some (some v)) (nt : t.nt = true) (k : Beside N F B H fp t v g) : ∃ fp', Sim N F0 B F H (env.set i (some t)) σ fp' ∧ ∀ a ∈ fp', a ∈ fp ∨ a ∈ g := by
  obtain ⟨n1, n2, n3⟩ := List.nodup_append.mp k.nd
  obtain ⟨fp', a, b, c⟩ := s.sl.put (s' := some t) (i := i) s.nd e ⟨v, rfl, nt, k.r⟩ n2 fun x hx z => n3 x z x hx rfl
  exact ⟨fp', ⟨s.f0, s.fh, s.bh, s.fr, a, b, fun x hx => (c x hx).elim (s.out x) (k.out x)⟩, c⟩

theorem does_iMv {i : Nat} : DoesI N W (tVar i) (iMv i) := by
  intro F0 B F H env σ fp Q s w
  unfold iMv at w
  cases e : env[i]? with
  | none => rw [e] at w; exact w.elim
  | some o =>
    cases o with
    | none => rw [e] at w; exact w.elim
    | some t =>
      rw [e] at w
      obtain ⟨v, fp', g, e1, s', k, _, _⟩ := s.take e
      exact ⟨v, e1, w F H fp' v g s' Same.rfl' k⟩
/-- what is beside is frozen -/
theorem Beside.frozen {t u : T} {v : V} {g : List Addr} (s : Sim N F0 B F H env σ fp) (k : Beside N F B H fp t v g) (hf : t.frz1 = some u) : Sim N F0 B (frzH F H g) H env σ fp ∧ Same F (frzH F H g) ∧ Beside N (frzH F H g) B H fp u v [] := by
  have sf : Same F (frzH F H g) := fun a o q => by
    by_cases hg : a ∈ g
    · rw [(k.out a hg).1] at q; cases q
    · rw [frzH_out hg]; exact q
  obtain ⟨n1, n2, n3⟩ := List.nodup_append.mp k.nd
  refine ⟨⟨s.f0.trans sf, fun a o q => ?_, s.bh, fun a q => ?_, s.sl.grow sf Same.rfl' Same.rfl', s.nd, fun a ha => ⟨?_, (s.out a ha).2⟩⟩, sf, ⟨?_, by rw [List.append_nil]; exact s.nd, fun _ z => nomatch z⟩⟩
  · by_cases hg : a ∈ g
    · rw [frzH_in hg] at q; exact q
    · rw [frzH_out hg] at q; exact s.fh a o q
  · by_cases hg : a ∈ g
    · exact .inr (k.out a hg).2
    · rw [frzH_out hg] at q; exact s.fr a q
  · have hg : a ∉ g := fun z => n3 a ha a z rfl
    rw [frzH_out hg]; exact (s.out a ha).1
  · unfold T.frz1 at hf
    by_cases so : t.solid = true
    · rw [if_pos so] at hf
      cases hf
      have q : R N (frzH F H g) (frzH F H g) (frzH F H g) t v g := k.r.move sf (fun a ha o z => by rw [frzH_in ha]; exact z) so
      exact q.asF _ _
    · rw [if_neg so] at hf; cases hf
theorem frz1_nt {t u : T} (h : t.frz1 = some u) : u.nt = true := by
  unfold T.frz1 at h
  by_cases so : t.solid = true
  · rw [if_pos so] at h
    cases h
    refine T.nt_iff.mpr ?_
    cases t <;> simp [T.fl1, T.flag]
  · rw [if_neg so] at h; cases h
theorem does_iFr {i : Nat} : DoesI N W (tVar i) (iFr i) := by
  intro F0 B F H env σ fp Q s w
  unfold iFr at w
  cases e : env[i]? with
  | none => rw [e] at w; exact w.elim
  | some o =>
    cases o with
    | none => rw [e] at w; exact w.elim
    | some t =>
      rw [e] at w
      dsimp only at w
      cases hf : t.frz1 with
      | none => rw [hf] at w; exact w.elim
      | some u =>
        rw [hf] at w
        obtain ⟨v, fp', g, e1, s', k, _, _⟩ := s.take e
        obtain ⟨s2, sf, k2⟩ := k.frozen s' hf
        obtain ⟨fp2, s3, sub⟩ := s2.put (i := i) e1 (frz1_nt hf) k2
        rw [List.set_set] at s3
        exact ⟨v, e1, w _ H fp2 v [] s3 sf ⟨k2.r, by rw [List.append_nil]; exact s3.nd, fun _ z => nomatch z⟩⟩
/-- an operation on the value -/
theorem WantsI.on {res : ERes} {k : T → PRes} {Q : VK} {r : V → Hp → VK → Prop} (hv : ∀ WR', V1 N WR' r k) (w : WantsI N W F0 B F σ (res.on k) Q) : WantsI N W F0 B F σ res (fun v H' => r v H' Q) := by
  cases res with
  | bad => exact w
  | exc x e => exact w
  | ok t e =>
    intro F' H' fp' v g s sf b
    have we : (ERes.ok t e).on k = (match k t with | .ok u => .ok u e | .exc x => .exc x e | .bad => .bad) := rfl
    rw [we] at w
    refine hv (fun c d H => W c d σ H) F' B H' t v g Q s.fh s.bh b.r ?_
    revert w
    cases k t with
    | bad => exact fun w => w
    | exc x => exact fun w F2 H2 d e2 kx => w F2 H2 fp' d (s.ext e2) (sf.trans e2.f) kx
    | ok u => exact fun w F2 H2 v2 g2 e2 k2 => w F2 H2 fp' v2 g2 (s.ext e2) (sf.trans e2.f) (s.beside e2 k2)
theorem does_i1 {r : V → Hp → VK → Prop} {g : T → PRes} {ta : TE} {i : I} (hv : ∀ WR', V1 N WR' r g) (hp : DoesI N W ta i) : DoesI N W (tUn r ta) (i1 g i) :=
  fun F0 B F H env σ fp Q s w => hp F0 B F H env σ fp _ s (WantsI.on hv w)
theorem does_i1N {ta : TT} {i : I} (hp : DoesJ N W ta i) : DoesJ N W (tNot ta) (i1 gNot i) := by
  intro F0 B F H env σ fp Q s w
  refine hp F0 B F H env σ fp _ s ?_
  have we : i1 gNot i env = (i env).on gNot := rfl
  rw [we] at w
  revert w
  generalize i env = r
  intro w
  cases r with
  | bad => exact w
  | exc x e => exact w
  | ok x e =>
    cases x with
    | bl c =>
      refine fun F' H' fp' v g s' sf k => ⟨c, k.r.1, ?_⟩
      obtain ⟨b, e', q⟩ := w F' H' fp' (.bl (!c)) [] s' sf ⟨R.blI _, by rw [List.append_nil]; exact s'.nd, fun _ z => nomatch z⟩
      cases e'
      exact q
    | _ => exact w.elim
theorem does_iFz {ta : TE} {i : I} (hp : DoesI N W ta i) : DoesI N W ta (iFz i) := by
  intro F0 B F H env σ fp Q s w
  refine hp F0 B F H env σ fp _ s ?_
  have we : iFz i env = (i env).on (fun t => ofO t.frz1) := rfl
  rw [we] at w
  revert w
  generalize i env = r
  intro w
  cases r with
  | bad => exact w
  | exc x e => exact w
  | ok t e =>
    intro F' H' fp' v g s' sf k
    have we : (ERes.ok t e).on (fun t => ofO t.frz1) = (match ofO t.frz1 with | .ok u => .ok u e | .exc x => .exc x e | .bad => .bad) := rfl
    rw [we] at w
    cases hf : t.frz1 with
    | none => rw [hf] at w; exact w.elim
    | some u =>
      rw [hf] at w
      obtain ⟨s2, sf2, k2⟩ := k.frozen s' hf
      exact w _ H' fp' v [] s2 (sf.trans sf2) k2
theorem does_iAnd {ta tb : TT} {a b : I} (ha : DoesJ N W ta a) (hb : DoesJ N W tb b) : DoesJ N W (tAnd ta tb) (iAnd a b) := by
  intro F0 B F H env σ fp Q s w
  refine ha F0 B F H env σ fp _ s ?_
  have we : iAnd a b env = (a env).test b (fun e => .ok (.bl false) e) := rfl
  rw [we] at w
  revert w
  generalize a env = r
  intro w
  cases r with
  | bad => exact w
  | exc x e => exact w
  | ok x e =>
    cases x with
    | bl c =>
      cases c with
      | true => exact fun F' H' fp' v g s' sf k => ⟨true, k.r.1, iteT (hb F0 B F' H' e σ fp' Q s' (WantsI.after w sf))⟩
      | false =>
        refine fun F' H' fp' v g s' sf k => ⟨false, k.r.1, iteF ?_⟩
        obtain ⟨b, e', q⟩ := w F' H' fp' (.bl false) [] s' sf ⟨R.blI _, by rw [List.append_nil]; exact s'.nd, fun _ z => nomatch z⟩
        cases e'
        exact q
    | _ => exact w.elim
theorem does_iOr {ta tb : TT} {a b : I} (ha : DoesJ N W ta a) (hb : DoesJ N W tb b) : DoesJ N W (tOr ta tb) (iOr a b) := by
  intro F0 B F H env σ fp Q s w
  refine ha F0 B F H env σ fp _ s ?_
  have we : iOr a b env = (a env).test (fun e => .ok (.bl true) e) b := rfl
  rw [we] at w
  revert w
  generalize a env = r
  intro w
  cases r with
  | bad => exact w
  | exc x e => exact w
  | ok x e =>
    cases x with
    | bl c =>
      cases c with
      | false => exact fun F' H' fp' v g s' sf k => ⟨false, k.r.1, iteF (hb F0 B F' H' e σ fp' Q s' (WantsI.after w sf))⟩
      | true =>
        refine fun F' H' fp' v g s' sf k => ⟨true, k.r.1, iteT ?_⟩
        obtain ⟨b, e', q⟩ := w F' H' fp' (.bl true) [] s' sf ⟨R.blI _, by rw [List.append_nil]; exact s'.nd, fun _ z => nomatch z⟩
        cases e'
        exact q
    | _ => exact w.elim
theorem still_stay {t : T} {v : V} {g : List Addr} (h : t.still = true) (sf : Same F F') (k : R N F B H t v g) : R N F' B H' t v [] := by
  have nt : t.nt = true := by unfold T.still at h; unfold T.nt; revert h; cases t.flag <;> simp
  have hf : t.flag ≠ .own := by intro e; unfold T.still at h; rw [e] at h; cases h
  have q := k.nofp hf
  subst q
  exact k.stay nt sf Same.rfl' fun _ z => nomatch z
/-- two in a row, the first value stands meanwhile -/
theorem does_i2 {r : R2} {g : T → T → PRes} {ta tb : TE} {a b : I} (hv : ∀ WR', V2 N WR' r g) (ha : DoesI N W ta a) (hb : DoesI N W tb b) : DoesI N W (tOp r ta tb) (i2 g a b) := by
  intro F0 B F H env σ fp Q s w
  refine ha F0 B F H env σ fp _ s ?_
  have we : i2 g a b env = (match a env with
    | .ok x e1 => if x.still then (b e1).on (g x) else .bad
    | .exc x e => .exc x e | .bad => .bad) := rfl
  rw [we] at w
  revert w
  cases a env with
  | bad => exact fun w => w
  | exc x e => exact fun w => w
  | ok x e1 =>
    intro w F1 H1 fp1 v gx s1 sf k
    dsimp only at w
    by_cases so : x.still = true
    · rw [if_pos so] at w
      refine hb F0 B F1 H1 e1 σ fp1 _ s1 ?_
      have w := WantsI.after w sf
      revert w
      generalize b e1 = rb
      intro w
      cases rb with
      | bad => exact w
      | exc z e2 => exact w
      | ok y e2 =>
        intro F2 H2 fp2 u gy s2 sf2 k2
        have we : (ERes.ok y e2).on (g x) = (match g x y with | .ok u => .ok u e2 | .exc x => .exc x e2 | .bad => .bad) := rfl
        rw [we] at w
        refine hv (fun c d H => W c d σ H) F2 B H2 x y v u [] gy Q s2.fh s2.bh (still_stay so sf2 k.r) k2.r ?_
        revert w
        cases g x y with
        | bad => exact fun w => w
        | exc x => exact fun w F3 H3 d e3 kx => w F3 H3 fp2 d (s2.ext e3) (sf2.trans e3.f) kx
        | ok u => exact fun w F3 H3 v3 g3 e3 k3 => w F3 H3 fp2 v3 g3 (s2.ext e3) (sf2.trans e3.f) (s2.beside e3 k3)
    · rw [if_neg so] at w; exact w.elim

/-! ### a call that changes arguments -/
def MatchA (N : Nm) (F B H : Hp) (σ : St) : List Ar → List (Option T) → List V → Prop
  | [], [], vs => vs = []
  | .val _ :: as, some t :: ts, vs => ∃ v vs', vs = v :: vs' ∧ t.still = true ∧ R N F B H t v [] ∧ MatchA N F B H σ as ts vs'
  | .own i :: as, none :: ts, vs => ∃ v vs', vs = v :: vs' ∧ σ[i]? = some (some v) ∧ MatchA N F B H σ as ts vs'
  | _, _, _ => False
def WantsV (N : Nm) (W : WX) (F0 B F : Hp) (σ : St) (as : List Ar) (res : VRes) (Q : List V → Hp → Prop) : Prop := match res with
  | .ok ts e => ∀ F' H' fp' vs, Sim N F0 B F' H' e σ fp' → Same F F' → MatchA N F' B H' σ as ts vs → Q vs H'
  | .exc x e => ∀ F' H' fp' d, Sim N F0 B F' H' e σ fp' → Same F F' → ExR N F' x d → W (.ref (N.cls x.c)) d σ H'
  | .bad => False
def DoesV (N : Nm) (W : WX) (t : TA) (as : List Ar) : Prop := ∀ F0 B F H env σ fp Q, Sim N F0 B F H env σ fp → (∀ i, Ar.own i ∈ as → ∃ v, σ[i]? = some (some v)) → WantsV N W F0 B F σ as (iVals as env) Q → t σ H Q
theorem does_vNil : DoesV N W tNil [] := fun F0 B F H env σ fp Q s _ w => w F H fp [] s Same.rfl' rfl
theorem MatchA.stay (sf : Same F F') : ∀ {as : List Ar} {ts : List (Option T)} {vs : List V}, MatchA N F B H σ as ts vs → MatchA N F' B H' σ as ts vs
  | [], [], _, h => h
  | [], _ :: _, _, h => h.elim
  | .val _ :: _, [], _, h => h.elim
  | .own _ :: _, [], _, h => h.elim
  | .val _ :: _, none :: _, _, h => h.elim
  | .own _ :: _, some _ :: _, _, h => h.elim
  | .val _ :: as, some t :: ts, _, ⟨v, vs', e, st, r, h⟩ => ⟨v, vs', e, st, still_stay st sf r, h.stay sf⟩
  | .own i :: as, none :: ts, _, ⟨v, vs', e, ev, h⟩ => ⟨v, vs', e, ev, h.stay sf⟩
theorem does_vVal {ta : TE} {tr : TA} {a : I} {as : List Ar} (ha : DoesI N W ta a) (hr : DoesV N W tr as) : DoesV N W (tCons ta tr) (.val a :: as) := by
  intro F0 B F H env σ fp Q s ho w
  refine ha F0 B F H env σ fp _ s ?_
  have we : iVals (.val a :: as) env = (match a env with
    | .ok t e1 => if t.still then (match iVals as e1 with | .ok ts e2 => .ok (some t :: ts) e2 | .exc x e2 => .exc x e2 | .bad => .bad) else .bad
    | .exc x e1 => .exc x e1
    | .bad => .bad) := rfl
  rw [we] at w
  revert w
  cases a env with
  | bad => exact fun w => w
  | exc x e => exact fun w => w
  | ok t e1 =>
    intro w F1 H1 fp1 v g s1 sf k
    dsimp only at w
    by_cases so : t.still = true
    · rw [if_pos so] at w
      refine hr F0 B F1 H1 e1 σ fp1 _ s1 (fun i hi => ho i (List.mem_cons_of_mem _ hi)) ?_
      revert w
      cases iVals as e1 with
      | bad => exact fun w => w
      | exc x e => exact fun w F2 H2 fp2 d s2 sf2 kx => w F2 H2 fp2 d s2 (sf.trans sf2) kx
      | ok ts e2 => exact fun w F2 H2 fp2 vs s2 sf2 m => w F2 H2 fp2 (v :: vs) s2 (sf.trans sf2) ⟨v, vs, rfl, so, still_stay so sf2 k.r, m⟩
    · rw [if_neg so] at w; exact w.elim
theorem does_vOwn {i : Nat} {tr : TA} {as : List Ar} (hr : DoesV N W tr as) : DoesV N W (tCons (tVar i) tr) (.own i :: as) := by
  intro F0 B F H env σ fp Q s ho w
  obtain ⟨v, ev⟩ := ho i (List.mem_cons_self ..)
  refine ⟨v, ev, hr F0 B F H env σ fp _ s (fun i hi => ho i (List.mem_cons_of_mem _ hi)) ?_⟩
  have we : iVals (.own i :: as) env = (match iVals as env with | .ok ts e2 => .ok (none :: ts) e2 | .exc x e2 => .exc x e2 | .bad => .bad) := rfl
  rw [we] at w
  revert w
  cases iVals as env with
  | bad => exact fun w => w
  | exc x e => exact fun w => w
  | ok ts e2 => exact fun w F2 H2 fp2 vs s2 sf2 m => w F2 H2 fp2 (v :: vs) s2 sf2 ⟨v, vs, rfl, ev, m⟩
/-- what is taken: G the cells of what is changed, O those of the other things handed over -/
def TakeOk (N : Nm) (F B H : Hp) (σ : St) : Nat → List Nat → List Ar → List T → List V → List Addr → List Addr → Prop
  | _, io, [], ts, vs, G, O => io = [] ∧ ts = [] ∧ vs = [] ∧ G = [] ∧ O = []
  | _, _, _ :: _, [], _, _, _ => False
  | k, io, .val _ :: as, t :: ts, vs, G, O => ∃ v vs', vs = v :: vs' ∧ io.head? ≠ some k ∧ t.still = true ∧ R N F B H t v [] ∧ TakeOk N F B H σ (k + 1) io as ts vs' G O
  | k, [], .own i :: as, t :: ts, vs, G, O => ∃ v vs' g O', vs = v :: vs' ∧ t.flag = .own ∧ σ[i]? = some (some v) ∧ R N F B H t v g ∧ O = g ++ O' ∧ TakeOk N F B H σ (k + 1) [] as ts vs' G O'
  | k, j :: js, .own i :: as, t :: ts, vs, G, O => ∃ v vs' g, vs = v :: vs' ∧ t.flag = .own ∧ σ[i]? = some (some v) ∧ R N F B H t v g ∧
      if j = k then ∃ G', G = g ++ G' ∧ TakeOk N F B H σ (k + 1) js as ts vs' G' O else ∃ O', O = g ++ O' ∧ TakeOk N F B H σ (k + 1) (j :: js) as ts vs' G O'
theorem apart3 {a b c : List Addr} : (a ++ (b ++ c)).Nodup ↔ a.Nodup ∧ b.Nodup ∧ c.Nodup ∧ (∀ x ∈ a, x ∉ b ∧ x ∉ c) ∧ (∀ x ∈ b, x ∉ c) := by
  constructor
  · intro h
    obtain ⟨h1, h2, h3⟩ := List.nodup_append.mp h
    obtain ⟨h4, h5, h6⟩ := List.nodup_append.mp h2
    exact ⟨h1, h4, h5, fun x hx => ⟨fun z => h3 x hx x (List.mem_append_left _ z) rfl, fun z => h3 x hx x (List.mem_append_right _ z) rfl⟩, fun x hx z => h6 x hx x z rfl⟩
  · rintro ⟨h1, h2, h3, h4, h5⟩
    refine List.nodup_append.mpr ⟨h1, List.nodup_append.mpr ⟨h2, h3, fun x hx y hy e => h5 x hx (e ▸ hy)⟩, fun x hx y hy e => ?_⟩
    subst e
    rcases List.mem_append.mp hy with q | q
    · exact (h4 x hx).1 q
    · exact (h4 x hx).2 q
theorem iTake_ok : ∀ {as : List Ar} {os : List (Option T)} {vs : List V} {k : Nat} {io : List Nat} {env env' : Env} {fp : List Addr} {ts : List T},
    Sim N F0 B F H env σ fp → MatchA N F B H σ as os vs → iTake as os env = some (ts, env') → ioOwn k io as = true →
    ∃ fp' G O, Sim N F0 B F H env' σ fp' ∧ TakeOk N F B H σ k io as ts vs G O ∧ (fp' ++ (G ++ O)).Nodup ∧ (∀ a, a ∈ fp' ∨ a ∈ G ∨ a ∈ O → a ∈ fp)
  | [], [], vs, k, io, env, env', fp, ts, s, m, h, ho => by
    have h' : some ([], env) = some (ts, env') := h
    cases h'
    cases io with
    | nil => exact ⟨fp, [], [], s, ⟨rfl, rfl, m, rfl, rfl⟩, by rw [List.append_nil, List.append_nil]; exact s.nd, fun a ha => ha.elim (fun q => q) (fun q => q.elim (fun z => nomatch z) fun z => nomatch z)⟩
    | cons _ _ => cases ho
  | [], _ :: _, _, _, _, _, _, _, _, _, m, _, _ => m.elim
  | .val _ :: _, [], _, _, _, _, _, _, _, _, m, _, _ => m.elim
  | .own _ :: _, [], _, _, _, _, _, _, _, _, m, _, _ => m.elim
  | .val _ :: _, none :: _, _, _, _, _, _, _, _, _, m, _, _ => m.elim
  | .own _ :: _, some _ :: _, _, _, _, _, _, _, _, _, m, _, _ => m.elim
  | .val a :: as, some t :: os, _, k, io, env, env', fp, ts, s, ⟨v, vs', e, st, r, m⟩, h, ho => by
    have we : iTake (.val a :: as) (some t :: os) env = (match iTake as os env with | some (us, e2) => some (t :: us, e2) | none => none) := rfl
    rw [we] at h
    cases q : iTake as os env with
    | none => rw [q] at h; cases h
    | some p =>
      obtain ⟨us, e2⟩ := p
      rw [q] at h
      cases h
      have hio : io.head? ≠ some k ∧ ioOwn (k + 1) io as = true := by
        cases io with
        | nil => exact ⟨by simp, by cases as <;> rfl⟩
        | cons j js =>
          by_cases c : j = k
          · simp [ioOwn, c] at ho
          · simp [ioOwn, c] at ho
            exact ⟨by simpa using c, ho⟩
      obtain ⟨fp', G, O, s', tk, nd, sub⟩ := iTake_ok s m q hio.2
      exact ⟨fp', G, O, s', ⟨v, vs', e, hio.1, st, r, tk⟩, nd, sub⟩
  | .own i :: as, none :: os, _, k, io, env, env', fp, ts, s, ⟨v, vs', e, ev, m⟩, h, ho => by
    have we : iTake (.own i :: as) (none :: os) env = (match env[i]? with
      | some (some t) => (match t.flag with
        | .own => (match iTake as os (env.set i none) with | some (us, e2) => some (t :: us, e2) | none => none)
        | _ => none)
      | _ => none) := rfl
    rw [we] at h
    cases ei : env[i]? with
    | none => rw [ei] at h; cases h
    | some o =>
      rw [ei] at h
      cases o with
      | none => cases h
      | some t =>
        dsimp only at h
        cases hf : t.flag with
        | frz => rw [hf] at h; cases h
        | bor => rw [hf] at h; cases h
        | tmp => rw [hf] at h; cases h
        | own =>
          rw [hf] at h
          dsimp only at h
          cases q : iTake as os (env.set i none) with
          | none => rw [q] at h; cases h
          | some p =>
            obtain ⟨us, e2⟩ := p
            rw [q] at h
            cases h
            obtain ⟨v2, fp1, g, e1, s1, b1, nt, sub1⟩ := s.take ei
            rw [ev] at e1
            cases e1
            obtain ⟨n1, n2, n3⟩ := List.nodup_append.mp b1.nd
            have key : ∀ {io' : List Nat}, ioOwn (k + 1) io' as = true → ∃ fp' G O, Sim N F0 B F H env' σ fp' ∧ TakeOk N F B H σ (k + 1) io' as us vs' G O ∧ (fp' ++ (G ++ O)).Nodup ∧ (∀ a, a ∈ fp' ∨ a ∈ G ∨ a ∈ O → a ∈ fp1) := fun h => iTake_ok s1 m q h
            cases io with
            | nil =>
              obtain ⟨fp', G, O, s', tk, nd, sub⟩ := key (io' := []) (by cases as <;> rfl)
              obtain ⟨a1, a2, a3, a4, a5⟩ := apart3.mp nd
              have dg : ∀ x, x ∈ fp' ∨ x ∈ G ∨ x ∈ O → x ∉ g := fun x hx z => n3 x (sub x hx) x z rfl
              refine ⟨fp', G, g ++ O, s', ⟨v, vs', g, O, e, hf, ev, b1.r, rfl, tk⟩, apart3.mpr ⟨a1, a2, List.nodup_append.mpr ⟨n2, a3, fun x hx y hy z => dg x (.inr (.inr (z ▸ hy))) hx⟩, fun x hx => ⟨(a4 x hx).1, fun z => (List.mem_append.mp z).elim (dg x (.inl hx)) (a4 x hx).2⟩, fun x hx z => (List.mem_append.mp z).elim (dg x (.inr (.inl hx))) (a5 x hx)⟩, fun a ha => ?_⟩
              rcases ha with ha | ha | ha
              · exact sub1 a (.inl (sub a (.inl ha)))
              · exact sub1 a (.inl (sub a (.inr (.inl ha))))
              · rcases List.mem_append.mp ha with z | z
                · exact sub1 a (.inr z)
                · exact sub1 a (.inl (sub a (.inr (.inr z))))
            | cons j js =>
              by_cases c : j = k
              · have ho' : ioOwn (k + 1) js as = true := by simpa [ioOwn, c] using ho
                obtain ⟨fp', G, O, s', tk, nd, sub⟩ := key ho'
                obtain ⟨a1, a2, a3, a4, a5⟩ := apart3.mp nd
                have dg : ∀ x, x ∈ fp' ∨ x ∈ G ∨ x ∈ O → x ∉ g := fun x hx z => n3 x (sub x hx) x z rfl
                refine ⟨fp', g ++ G, O, s', ⟨v, vs', g, e, hf, ev, b1.r, by rw [if_pos c]; exact ⟨G, rfl, tk⟩⟩, apart3.mpr ⟨a1, List.nodup_append.mpr ⟨n2, a2, fun x hx y hy z => dg x (.inr (.inl (z ▸ hy))) hx⟩, a3, fun x hx => ⟨fun z => (List.mem_append.mp z).elim (dg x (.inl hx)) (a4 x hx).1, (a4 x hx).2⟩, fun x hx z => (List.mem_append.mp hx).elim (dg x (.inr (.inr z))) fun q => a5 x q z⟩, fun a ha => ?_⟩
                rcases ha with ha | ha | ha
                · exact sub1 a (.inl (sub a (.inl ha)))
                · rcases List.mem_append.mp ha with z | z
                  · exact sub1 a (.inr z)
                  · exact sub1 a (.inl (sub a (.inr (.inl z))))
                · exact sub1 a (.inl (sub a (.inr (.inr ha))))
              · have ho' : ioOwn (k + 1) (j :: js) as = true := by simpa [ioOwn, c] using ho
                obtain ⟨fp', G, O, s', tk, nd, sub⟩ := key ho'
                obtain ⟨a1, a2, a3, a4, a5⟩ := apart3.mp nd
                have dg : ∀ x, x ∈ fp' ∨ x ∈ G ∨ x ∈ O → x ∉ g := fun x hx z => n3 x (sub x hx) x z rfl
                refine ⟨fp', G, g ++ O, s', ⟨v, vs', g, e, hf, ev, b1.r, by rw [if_neg c]; exact ⟨O, rfl, tk⟩⟩, apart3.mpr ⟨a1, a2, List.nodup_append.mpr ⟨n2, a3, fun x hx y hy z => dg x (.inr (.inr (z ▸ hy))) hx⟩, fun x hx => ⟨(a4 x hx).1, fun z => (List.mem_append.mp z).elim (dg x (.inl hx)) (a4 x hx).2⟩, fun x hx z => (List.mem_append.mp z).elim (dg x (.inr (.inl hx))) (a5 x hx)⟩, fun a ha => ?_⟩
                rcases ha with ha | ha | ha
                · exact sub1 a (.inl (sub a (.inl ha)))
                · exact sub1 a (.inl (sub a (.inr (.inl ha))))
                · rcases List.mem_append.mp ha with z | z
                  · exact sub1 a (.inr z)
                  · exact sub1 a (.inl (sub a (.inr (.inr z))))

/-- the callee's arguments -/
theorem handed_ok {G0 : Hp} (sB : Same B G0) : ∀ {as : List Ar} {ts : List T} {vs : List V} {k : Nat} {io : List Nat} {G O : List Addr}, (∀ a ∈ O, ∀ o, H a = some o → G0 a = some o) → TakeOk N F B H σ k io as ts vs G O →
    Rs N F G0 H (handed k io ts) vs G ∧ (handed k io ts).all T.nt = true
  | [], ts, vs, k, io, G, O, kO, ⟨e1, e2, e3, e4, e5⟩ => by
    subst e2; subst e3; subst e4
    exact ⟨by cases io <;> exact ⟨rfl, rfl⟩, by cases io <;> rfl⟩
  | _ :: _, [], _, _, _, _, _, _, h => h.elim
  | .val a :: as, t :: ts, _, k, io, G, O, kO, ⟨v, vs', e, hk, st, r, tk⟩ => by
    subst e
    obtain ⟨h1, h2⟩ := handed_ok sB kO tk
    have e : handed k io (t :: ts) = t.lend :: handed (k + 1) io ts := by
      cases io with
      | nil => rfl
      | cons j js =>
        show (if j = k then _ else _) = _
        rw [if_neg fun z => hk (by rw [z]; rfl)]
    have el : t.lend = t := T.fl1_id (by unfold T.still at st; revert st; cases t.flag <;> simp [Fl.lend])
    rw [e]
    refine ⟨⟨v, vs', [], G, rfl, rfl, ?_, h1⟩, by rw [List.all_cons, T.lend_nt, h2]; rfl⟩
    rw [el]
    have nt : t.nt = true := by unfold T.still at st; unfold T.nt; revert st; cases t.flag <;> simp
    exact r.stay nt Same.rfl' sB fun _ z => nomatch z
  | .own i :: as, t :: ts, _, k, [], G, O, kO, ⟨v, vs', g, O', e, hf, ev, r, eO, tk⟩ => by
    subst e; subst eO
    obtain ⟨h1, h2⟩ := handed_ok sB (fun a ha => kO a (List.mem_append_right _ ha)) tk
    refine ⟨⟨v, vs', [], G, rfl, rfl, ?_, h1⟩, by show (t.lend :: _).all _ = true; rw [List.all_cons, T.lend_nt, h2]; rfl⟩
    have r2 : R N F G0 G0 t v g := r.move Same.rfl' (fun a ha o q => kO a (List.mem_append_left _ ha) o q) (T.solid_iff.mpr (.inl hf))
    rw [show t.lend = t.fl1 (Fl.under .bor) from T.fl1_eq (by rw [hf]; rfl)]
    exact r2.asB _
  | .own i :: as, t :: ts, _, k, j :: js, G, O, kO, ⟨v, vs', g, e, hf, ev, r, hh⟩ => by
    subst e
    by_cases c : j = k
    · rw [if_pos c] at hh
      obtain ⟨G', eG, tk⟩ := hh
      subst eG
      obtain ⟨h1, h2⟩ := handed_ok sB kO tk
      have e : handed k (j :: js) (t :: ts) = t :: handed (k + 1) js ts := if_pos c
      rw [e]
      refine ⟨⟨v, vs', g, G', rfl, rfl, r.move Same.rfl' (fun _ _ _ q => q) (T.solid_iff.mpr (.inl hf)), h1⟩, by rw [List.all_cons, h2, T.nt_iff.mpr (by rw [hf]; decide)]; rfl⟩
    · rw [if_neg c] at hh
      obtain ⟨O', eO, tk⟩ := hh
      subst eO
      obtain ⟨h1, h2⟩ := handed_ok sB (fun a ha => kO a (List.mem_append_right _ ha)) tk
      have e : handed k (j :: js) (t :: ts) = t.lend :: handed (k + 1) (j :: js) ts := if_neg c
      rw [e]
      refine ⟨⟨v, vs', [], G, rfl, rfl, ?_, h1⟩, by rw [List.all_cons, T.lend_nt, h2]; rfl⟩
      have r2 : R N F G0 G0 t v g := r.move Same.rfl' (fun a ha o q => kO a (List.mem_append_left _ ha) o q) (T.solid_iff.mpr (.inl hf))
      rw [show t.lend = t.fl1 (Fl.under .bor) from T.fl1_eq (by rw [hf]; rfl)]
      exact r2.asB _

/-- all that was handed over comes back -/
theorem putBack_ok {G0 : Hp} (sf : Same F F') (hG : ∀ a o, G0 a = some o → H' a = some o) : ∀ {as : List Ar} {ts os : List T} {vs : List V} {k : Nat} {io : List Nat} {env : Env} {fp G O P : List Addr} {f : Nat → V},
    (∀ a ∈ O, ∀ o, H a = some o → G0 a = some o) → TakeOk N F B H σ k io as ts vs G O → (∀ i v, vs[i]? = some v → f (k + i) = v) → Rs N F' G0 H' os (io.map f) P → os.all (fun t => t.flag == .own) = true →
    Sim N F0 B F' H' env σ fp → (fp ++ (O ++ P)).Nodup → (∀ a, a ∈ O ∨ a ∈ P → F' a = none ∧ B a = none) → ∃ fp', Sim N F0 B F' H' (putBack k io as ts os env) σ fp' ∧ ∀ a ∈ fp', a ∈ fp ∨ a ∈ O ∨ a ∈ P
  | [], ts, os, vs, k, io, env, fp, G, O, P, f, kO, tk, hf, hR, ho, s, nd, out => by
    have e : putBack k io [] ts os env = env := by cases io <;> cases ts <;> rfl
    rw [e]
    exact ⟨fp, s, fun a ha => .inl ha⟩
  | _ :: _, [], _, _, _, _, _, _, _, _, _, _, _, h, _, _, _, _, _, _ => h.elim
  | .val a :: as, t :: ts, os, _, k, io, env, fp, G, O, P, f, kO, ⟨v, vs', e, hk, st, r, tk⟩, hf, hR, ho, s, nd, out => by
    subst e
    have e : putBack k io (.val a :: as) (t :: ts) os env = putBack (k + 1) io as ts os env := by cases io <;> rfl
    rw [e]
    exact putBack_ok sf hG kO tk (fun i v h => by rw [show k + 1 + i = k + (i + 1) by omega]; exact hf (i + 1) v (by simpa using h)) hR ho s nd out
  | .own i :: as, t :: ts, os, _, k, [], env, fp, G, O, P, f, kO, ⟨v, vs', g, O', e, hfl, ev, r, eO, tk⟩, hf, hR, ho, s, nd, out => by
    subst e; subst eO
    obtain ⟨b1, b2, b3, b4, b5⟩ := apart3.mp nd
    obtain ⟨c1, c2, c3⟩ := List.nodup_append.mp b2
    have k1 : Beside N F' B H' fp t v g := ⟨r.move sf (fun a ha o q => hG a o (kO a (List.mem_append_left _ ha) o q)) (T.solid_iff.mpr (.inl hfl)), List.nodup_append.mpr ⟨b1, c1, fun x hx y hy z => (b4 x hx).1 (List.mem_append_left _ (z ▸ hy))⟩, fun a ha => out a (.inl (List.mem_append_left _ ha))⟩
    obtain ⟨fp2, s2, sub2⟩ := s.put (i := i) ev (T.nt_iff.mpr (by rw [hfl]; decide)) k1
    have e : putBack k [] (.own i :: as) (t :: ts) os env = putBack (k + 1) [] as ts os (env.set i (some t)) := rfl
    rw [e]
    have d1 : ∀ x ∈ fp2, x ∉ O' := fun x hx z => (sub2 x hx).elim (fun q => (b4 x q).1 (List.mem_append_right _ z)) fun q => c3 x q x z rfl
    have d2 : ∀ x ∈ fp2, x ∉ P := fun x hx z => (sub2 x hx).elim (fun q => (b4 x q).2 z) fun q => b5 x (List.mem_append_left _ q) z
    obtain ⟨fp3, s3, sub3⟩ := putBack_ok sf hG (fun a ha => kO a (List.mem_append_right _ ha)) tk (fun i v h => by rw [show k + 1 + i = k + (i + 1) by omega]; exact hf (i + 1) v (by simpa using h)) hR ho s2
      (apart3.mpr ⟨s2.nd, c2, b3, fun x hx => ⟨d1 x hx, d2 x hx⟩, fun x hx => b5 x (List.mem_append_right _ hx)⟩) fun a ha => out a (ha.elim (fun z => .inl (List.mem_append_right _ z)) .inr)
    refine ⟨fp3, s3, fun a ha => ?_⟩
    rcases sub3 a ha with z | z | z
    · rcases sub2 a z with z | z
      · exact .inl z
      · exact .inr (.inl (List.mem_append_left _ z))
    · exact .inr (.inl (List.mem_append_right _ z))
    · exact .inr (.inr z)
  | .own i :: as, t :: ts, os, _, k, j :: js, env, fp, G, O, P, f, kO, ⟨v, vs', g, e, hfl, ev, r, hh⟩, hf, hR, ho, s, nd, out => by
    subst e
    obtain ⟨b1, b2, b3, b4, b5⟩ := apart3.mp nd
    by_cases c : j = k
    · rw [if_pos c] at hh
      obtain ⟨G', eG, tk⟩ := hh
      subst c
      cases os with
      | nil => obtain ⟨h1, _⟩ := hR; simp at h1
      | cons o os =>
        obtain ⟨v0, vs0, g0, P', e0, eP, r0, hR'⟩ := hR
        rw [List.map_cons] at e0
        cases e0
        subst eP
        rw [List.all_cons, Bool.and_eq_true] at ho
        have hof : o.flag = .own := by simpa using ho.1
        obtain ⟨c1, c2, c3⟩ := List.nodup_append.mp b3
        have ef : f j = v := by simpa using hf 0 v (by simp)
        rw [ef] at r0
        have k1 : Beside N F' B H' fp o v g0 := ⟨r0.move Same.rfl' (fun _ _ _ q => q) (T.solid_iff.mpr (.inl hof)), List.nodup_append.mpr ⟨b1, c1, fun x hx y hy z => (b4 x hx).2 (List.mem_append_left _ (z ▸ hy))⟩, fun a ha => out a (.inr (List.mem_append_left _ ha))⟩
        obtain ⟨fp2, s2, sub2⟩ := s.put (i := i) ev (T.nt_iff.mpr (by rw [hof]; decide)) k1
        have e : putBack j (j :: js) (.own i :: as) (t :: ts) (o :: os) env = putBack (j + 1) js as ts os (env.set i (some o)) := if_pos rfl
        rw [e]
        have d1 : ∀ x ∈ fp2, x ∉ O := fun x hx z => (sub2 x hx).elim (fun q => (b4 x q).1 z) fun q => b5 x z (List.mem_append_left _ q)
        have d2 : ∀ x ∈ fp2, x ∉ P' := fun x hx z => (sub2 x hx).elim (fun q => (b4 x q).2 (List.mem_append_right _ z)) fun q => c3 x q x z rfl
        obtain ⟨fp3, s3, sub3⟩ := putBack_ok sf hG kO tk (fun i v h => by rw [show j + 1 + i = j + (i + 1) by omega]; exact hf (i + 1) v (by simpa using h)) hR' ho.2 s2
          (apart3.mpr ⟨s2.nd, b2, c2, fun x hx => ⟨d1 x hx, d2 x hx⟩, fun x hx z => b5 x hx (List.mem_append_right _ z)⟩) fun a ha => out a (ha.elim .inl fun z => .inr (List.mem_append_right _ z))
        refine ⟨fp3, s3, fun a ha => ?_⟩
        rcases sub3 a ha with z | z | z
        · rcases sub2 a z with z | z
          · exact .inl z
          · exact .inr (.inr (List.mem_append_left _ z))
        · exact .inr (.inl z)
        · exact .inr (.inr (List.mem_append_right _ z))
    · rw [if_neg c] at hh
      obtain ⟨O', eO, tk⟩ := hh
      subst eO
      obtain ⟨c1, c2, c3⟩ := List.nodup_append.mp b2
      have k1 : Beside N F' B H' fp t v g := ⟨r.move sf (fun a ha o q => hG a o (kO a (List.mem_append_left _ ha) o q)) (T.solid_iff.mpr (.inl hfl)), List.nodup_append.mpr ⟨b1, c1, fun x hx y hy z => (b4 x hx).1 (List.mem_append_left _ (z ▸ hy))⟩, fun a ha => out a (.inl (List.mem_append_left _ ha))⟩
      obtain ⟨fp2, s2, sub2⟩ := s.put (i := i) ev (T.nt_iff.mpr (by rw [hfl]; decide)) k1
      have e : putBack k (j :: js) (.own i :: as) (t :: ts) os env = putBack (k + 1) (j :: js) as ts os (env.set i (some t)) := if_neg c
      rw [e]
      have d1 : ∀ x ∈ fp2, x ∉ O' := fun x hx z => (sub2 x hx).elim (fun q => (b4 x q).1 (List.mem_append_right _ z)) fun q => c3 x q x z rfl
      have d2 : ∀ x ∈ fp2, x ∉ P := fun x hx z => (sub2 x hx).elim (fun q => (b4 x q).2 z) fun q => b5 x (List.mem_append_left _ q) z
      obtain ⟨fp3, s3, sub3⟩ := putBack_ok sf hG (fun a ha => kO a (List.mem_append_right _ ha)) tk (fun i v h => by rw [show k + 1 + i = k + (i + 1) by omega]; exact hf (i + 1) v (by simpa using h)) hR ho s2
        (apart3.mpr ⟨s2.nd, c2, b3, fun x hx => ⟨d1 x hx, d2 x hx⟩, fun x hx => b5 x (List.mem_append_right _ hx)⟩) fun a ha => out a (ha.elim (fun z => .inl (List.mem_append_right _ z)) .inr)
      refine ⟨fp3, s3, fun a ha => ?_⟩
      rcases sub3 a ha with z | z | z
      · rcases sub2 a z with z | z
        · exact .inl z
        · exact .inr (.inl (List.mem_append_left _ z))
      · exact .inr (.inl (List.mem_append_right _ z))
      · exact .inr (.inr z)
theorem owns_there {as : List Ar} (s : Sim N F0 B F H env σ fp) (h : ownsThere as env = true) : ∀ i, Ar.own i ∈ as → ∃ v, σ[i]? = some (some v) := by
  induction as with
  | nil => exact fun i hi => nomatch hi
  | cons a as ih =>
    intro i hi
    cases a with
    | val p =>
      rcases List.mem_cons.mp hi with e | hi
      · cases e
      · exact ih h i hi
    | own j =>
      have we : ownsThere (.own j :: as) env = ((match env[j]? with | some (some _) => true | _ => false) && ownsThere as env) := rfl
      rw [we, Bool.and_eq_true] at h
      rcases List.mem_cons.mp hi with e | hi
      · injection e with e
        subst e
        cases ej : env[i]? with
        | none => rw [ej] at h; exact absurd h.1 (by simp)
        | some o =>
          cases o with
          | none => rw [ej] at h; exact absurd h.1 (by simp)
          | some t => obtain ⟨v, _, e1, _⟩ := s.sl.get ej; exact ⟨v, e1⟩
      · exact ih h.2 i hi
/-- f(..) that changes the arguments at io -/
theorem does_iCallC {n : Nat} {io : List Nat} {m : List T → FRes} {t : TA} {as : List Ar} (hm : ∀ ts, m ts ≠ .bad → ts.length = n)
    (s : Sim N F0 B F H env σ fp) (ha : ∀ Q, (∀ i, Ar.own i ∈ as → ∃ v, σ[i]? = some (some v)) → WantsV N W F0 B F σ as (iVals as env) Q → t σ H Q) {Q : VK} (w : WantsI N W F0 B F σ (iCall m io as env) Q) : tCallS (spD N n io m) (WE W) t σ H Q := by
  unfold iCall at w
  by_cases hc : (ownsThere as env && ioOwn 0 io as) = true
  case neg => rw [if_neg hc] at w; exact w.elim
  rw [if_pos hc] at w
  rw [Bool.and_eq_true] at hc
  refine ha _ (owns_there s hc.1) ?_
  revert w
  cases iVals as env with
  | bad => exact fun w => w
  | exc x e => exact fun w => w
  | ok vs0 e0 =>
    intro w F1 H1 fp1 vs s1 sf mt
    dsimp only at w
    cases et : iTake as vs0 e0 with
    | none => rw [et] at w; exact w.elim
    | some p =>
      obtain ⟨ts, e1⟩ := p
      rw [et] at w
      dsimp only at w
      obtain ⟨fp2, G, O, s2, tk, nd, sub⟩ := iTake_ok (k := 0) (io := io) s1 mt et hc.2
      obtain ⟨a1, a2, a3, a4, a5⟩ := apart3.mp nd
      -- the callee's ground: all but what is changed
      let G0 : Hp := fun a => if a ∈ G then none else H1 a
      have gO : ∀ {a}, a ∉ G → G0 a = H1 a := fun h => if_neg h
      have gI : ∀ {a}, a ∈ G → G0 a = none := fun h => if_pos h
      have outp : ∀ a, a ∈ fp2 ∨ a ∈ G ∨ a ∈ O → F1 a = none ∧ B a = none := fun a ha => s1.out a (sub a ha)
      have sB : Same B G0 := fun a o q => by
        have : a ∉ G := fun z => by rw [(outp a (.inr (.inl z))).2] at q; cases q
        rw [gO this]; exact s1.bh a o q
      have sG : Same G0 H1 := fun a o q => by
        by_cases hg : a ∈ G
        · rw [gI hg] at q; cases q
        · rw [gO hg] at q; exact q
      have kO : ∀ a ∈ O, ∀ o, H1 a = some o → G0 a = some o := fun a ha o q => by rw [gO fun z => a5 a z ha]; exact q
      obtain ⟨hR, hnt⟩ := handed_ok sB kO tk
      have nb : m (handed 0 io ts) ≠ .bad := fun z => by rw [z] at w; exact w
      refine ⟨hR.len.symm.trans (hm _ nb), F1, G0, handed 0 io ts, G, s1.fh, sG, hR, hnt, a2, fun a ha => ⟨(outp a (.inr (.inl ha))).1, gI ha⟩, ?_⟩
      -- what the call leaves
      have after : ∀ {F' H' : Hp} {fo : List Addr} {os : List T}, Same F1 F' → Same F' H' → Same G0 H' → (∀ a, F' a ≠ none → F1 a ≠ none ∨ G0 a = none) → Rs N F' G0 H' os (io.map fun i => vs.getD i .non) fo → os.all (fun t => t.flag == .own) = true →
          (∀ a ∈ fo, F' a = none ∧ G0 a = none) → fo.Nodup → ∃ fp', Sim N F0 B F' H' (putBack 0 io as ts os e1) σ fp' ∧ Same F F' ∧ ∀ a ∈ fp', a ∈ fp2 ∨ a ∈ O ∨ a ∈ fo := by
        intro F' H' fo os sf1 fh bh fr hRo ho out nfo
        have keepF : ∀ {a}, F1 a = none → G0 a ≠ none → F' a = none := fun h1 h2 => none_of_not fun q => (fr _ q).elim (fun z => z h1) fun z => h2 z
        have onG : ∀ {a}, a ∈ fp2 ∨ a ∈ O → G0 a ≠ none := fun {a} h => by
          have hn : a ∉ G := h.elim (fun z => (a4 a z).1) fun z q => a5 a q z
          rw [gO hn]
          exact s1.sl.cells a (sub a (h.elim .inl fun z => .inr (.inr z)))
        have bFr : ∀ a, F' a ≠ none → F0 a ≠ none ∨ B a = none := fun a q => by
          rcases fr a q with z | z
          · exact s1.fr a z
          · exact .inr (sB.free z)
        have s3 : Sim N F0 B F' H' e1 σ fp2 := ⟨s1.f0.trans sf1, fh, sB.trans bh, bFr, s2.sl.stay sf1 Same.rfl' (fun a ha o q => bh a o (by rw [gO (a4 a ha).1]; exact q)), s2.nd, fun a ha => ⟨keepF (outp a (.inl ha)).1 (onG (.inl ha)), (outp a (.inl ha)).2⟩⟩
        have nfo2 : ∀ {a}, a ∈ fo → a ∉ fp2 ∧ a ∉ O := fun {a} h => ⟨fun z => onG (.inl z) (out a h).2, fun z => onG (.inr z) (out a h).2⟩
        have outs' : ∀ a, a ∈ O ∨ a ∈ fo → F' a = none ∧ B a = none := fun a ha => by
          rcases ha with ha | ha
          · exact ⟨keepF (outp a (.inr (.inr ha))).1 (onG (.inr ha)), (outp a (.inr (.inr ha))).2⟩
          · exact ⟨(out a ha).1, sB.free (out a ha).2⟩
        obtain ⟨fp', s4, sub4⟩ := putBack_ok (f := fun i => vs.getD i .non) sf1 (fun a o q => bh a o q) kO tk (fun i v h => by rw [Nat.zero_add]; simp [List.getD, h]) hRo ho s3 (apart3.mpr ⟨a1, a3, nfo, fun x hx => ⟨(a4 x hx).2, fun z => (nfo2 z).1 hx⟩, fun x hx z => (nfo2 z).2 hx⟩) outs'
        exact ⟨fp', s4, sf.trans sf1, sub4⟩
      have onG : ∀ {a}, a ∈ fp2 ∨ a ∈ O → G0 a ≠ none := fun {a} h => by
        have hn : a ∉ G := h.elim (fun z => (a4 a z).1) fun z q => a5 a q z
        rw [gO hn]
        exact s1.sl.cells a (sub a (h.elim .inl fun z => .inr (.inr z)))
      revert w
      cases m (handed 0 io ts) with
      | bad => exact fun w => w
      | ret r os =>
        intro w F' H' fo v g sf1 fh bh fr hRo ho out k
        obtain ⟨n1, n2, n3⟩ := List.nodup_append.mp k.nd
        obtain ⟨fp', s4, sf2, sub4⟩ := after sf1 fh bh fr hRo ho out n1
        refine w F' H' fp' v g s4 sf2 ⟨k.r.back bh, List.nodup_append.mpr ⟨s4.nd, n2, fun a ha b hb z => ?_⟩, fun a ha => ⟨(k.out a ha).1, sB.free (k.out a ha).2⟩⟩
        subst z
        rcases sub4 a ha with q | q | q
        · exact onG (.inl q) (k.out a hb).2
        · exact onG (.inr q) (k.out a hb).2
        · exact n3 a q a hb rfl
      | exc x os =>
        intro w F' H' fo d sf1 fh bh fr hRo ho out nfo kx
        obtain ⟨fp', s4, sf2, _⟩ := after sf1 fh bh fr hRo ho out nfo
        exact w F' H' fp' d s4 sf2 kx
theorem does_iCall {n : Nat} {io : List Nat} {m : List T → FRes} {t : TA} {as : List Ar} (hm : ∀ ts, m ts ≠ .bad → ts.length = n) (ha : DoesV N W t as) : DoesI N W (tCallS (spD N n io m) (WE W) t) (iCall m io as) :=
  fun F0 B F H env σ fp Q s w => does_iCallC hm s (fun Q ho w => ha F0 B F H env σ fp Q s ho w) w
end
end Cd

set_option Elab.async false
set_option linter.all false
set_option maxRecDepth 100000
/-! Places, and what is done there. -/
namespace Cd
open PySem L2
section
variable {N : Nm} {W : WX} {ps : List Nat} {F B H F' B' H' F1 H1 F2 H2 F0 : Hp} {env : Env} {σ σ1 σ2 : St} {fp : List Addr}
/-- the place p of the name i is seen: v stands there, its cells are g; another thing may be put there -/
def Foc (N : Nm) (F B H : Hp) (env : Env) (σ : St) (fp : List Addr) (i : Nat) (p : List Step) (t : T) (v : V) : Prop :=
  ∃ pre g post, fp = pre ++ (g ++ post) ∧ R N F B H t v g ∧ subAt env i p = some t ∧
    ∀ (F' B' H' : Hp) (t' : T) (g' : List Addr), Same F F' → Same B B' → (∀ b, b ∈ pre ∨ b ∈ post → ∀ o, H b = some o → H' b = some o) → t'.flag = .own → R N F' B' H' t' v g' → SlsOk N F' B' H' (putPath env i p t') σ (pre ++ (g' ++ post))
theorem Foc.grow {i : Nat} {p : List Step} {t : T} {v : V} (f : Foc N F B H env σ fp i p t v) (sf : Same F F') (sh : Same H H') : Foc N F' B H' env σ fp i p t v := by
  obtain ⟨pre, g, post, e, r, es, rb⟩ := f
  exact ⟨pre, g, post, e, r.grow sf Same.rfl' sh, es, fun F2 B2 H2 t' g' s1 s2 k o r' => rb F2 B2 H2 t' g' (sf.trans s1) s2 (fun b hb o q => k b hb o (sh b o q)) o r'⟩
theorem foc_var {i : Nat} {t : T} (s : Sim N F0 B F H env σ fp) (e : env[i]? = some (some t)) : ∃ v, σ[i]? = some (some v) ∧ Foc N F B H env σ fp i [] t v := by
  obtain ⟨v, pre, g, post, e1, nt, r, efp, rb⟩ := s.sl.focus e
  refine ⟨v, e1, pre, g, post, efp, r, by unfold subAt; rw [e]; rfl, fun F' B' H' t' g' sf sb k ho r' => ?_⟩
  have ep : putPath env i [] t' = env.set i (some t') := by unfold putPath; rw [e]; rfl
  rw [ep]
  exact rb F' B' H' (some t') g' sf sb k ⟨v, rfl, T.nt_iff.mpr (by rw [ho]; decide), r'⟩
/-- the j-th of a row of things -/
theorem Rs.focus : ∀ {ts : List T} {vs : List V} {g : List Addr} {j : Nat} {t : T}, Rs N F B H ts vs g → ts.all T.solid = true → ts[j]? = some t →
    ∃ v pre g1 post, vs[j]? = some v ∧ g = pre ++ (g1 ++ post) ∧ R N F B H t v g1 ∧
      ∀ (F' B' H' : Hp) (t' : T) (g' : List Addr), Same F F' → (∀ b, b ∈ pre ∨ b ∈ post → ∀ o, H b = some o → H' b = some o) → R N F' B' H' t' v g' → Rs N F' B' H' (ts.set j t') vs (pre ++ (g' ++ post))
  | [], _, _, j, _, _, _, h => by simp at h
  | t0 :: ts, _, _, 0, t, h, so, e => by
    obtain ⟨v, vs', g1, g2, rfl, rfl, h1, h2⟩ := h
    simp at e; subst e
    rw [List.all_cons, Bool.and_eq_true] at so
    exact ⟨v, [], g1, g2, by simp, rfl, h1, fun F' B' H' t' g' sf k r => ⟨v, vs', g', g2, rfl, rfl, r, Rs.move sf (fun b hb o q => k b (.inr hb) o q) so.2 h2⟩⟩
  | t0 :: ts, _, _, j + 1, t, h, so, e => by
    obtain ⟨v, vs', g1, g2, rfl, rfl, h1, h2⟩ := h
    rw [List.all_cons, Bool.and_eq_true] at so
    obtain ⟨u, pre, g3, post, e1, rfl, r, rb⟩ := h2.focus (j := j) (t := t) so.2 (by simpa using e)
    refine ⟨u, g1 ++ pre, g3, post, by simpa using e1, by rw [List.append_assoc], r, fun F' B' H' t' g' sf k r' => ?_⟩
    exact ⟨v, vs', g1, pre ++ (g' ++ post), rfl, by rw [List.append_assoc], h1.move sf (fun b hb o q => k b (.inl (List.mem_append_left _ hb)) o q) so.1, rb F' B' H' t' g' sf (fun b hb o q => k b (hb.elim (fun z => .inl (List.mem_append_right _ z)) .inr) o q) r'⟩
theorem T.sub_append : ∀ {p : List Step} {q : List Step} {t u : T}, t.sub p = some u → t.sub (p ++ q) = u.sub q
  | [], q, t, u, h => by
    have h' : some t = some u := by cases t <;> exact h
    cases h'; rfl
  | .fd n :: p, q, t, u, h => by
    cases t with
    | ins f c ns ts =>
      cases f with
      | own =>
        have w1 : ∀ r, (T.ins .own c ns ts).sub (.fd n :: r) = (match fldIx ns n with | some j => (match ts[j]? with | some t => t.sub r | none => none) | none => none) := fun _ => rfl
        rw [List.cons_append, w1]
        rw [w1] at h
        cases e1 : fldIx ns n with
        | none => rw [e1] at h; cases h
        | some j =>
          rw [e1] at h
          dsimp only at h ⊢
          cases e2 : ts[j]? with
          | none => rw [e2] at h; cases h
          | some t1 => rw [e2] at h; exact T.sub_append h
      | _ => cases h
    | _ => cases h
  | .ix k :: p, q, t, u, h => by
    cases t with
    | lst f ts =>
      cases f with
      | own =>
        have w1 : ∀ r, (T.lst .own ts).sub (.ix k :: r) = (match ts[k]? with | some t => t.sub r | none => none) := fun _ => rfl
        rw [List.cons_append, w1]
        rw [w1] at h
        cases e2 : ts[k]? with
        | none => rw [e2] at h; cases h
        | some t1 => rw [e2] at h; exact T.sub_append h
      | _ => cases h
    | _ => cases h
theorem T.putAt_append : ∀ {p : List Step} {q : List Step} {t u w : T}, t.sub p = some u → t.putAt (p ++ q) w = t.putAt p (u.putAt q w)
  | [], q, t, u, w, h => by
    have h' : some t = some u := by cases t <;> exact h
    cases h'
    cases t <;> rfl
  | .fd n :: p, q, t, u, w, h => by
    cases t with
    | ins f c ns ts =>
      cases f with
      | own =>
        have w1 : ∀ r, (T.ins .own c ns ts).sub (.fd n :: r) = (match fldIx ns n with | some j => (match ts[j]? with | some t => t.sub r | none => none) | none => none) := fun _ => rfl
        have w2 : ∀ r x, (T.ins .own c ns ts).putAt (.fd n :: r) x = (match fldIx ns n with | some j => (match ts[j]? with | some t => .ins .own c ns (ts.set j (t.putAt r x)) | none => .non) | none => .non) := fun _ _ => rfl
        rw [List.cons_append, w2, w2]
        rw [w1] at h
        cases e1 : fldIx ns n with
        | none => rfl
        | some j =>
          rw [e1] at h
          dsimp only at h ⊢
          cases e2 : ts[j]? with
          | none => rfl
          | some t1 => rw [e2] at h; dsimp only; rw [T.putAt_append h]
      | _ => cases h
    | _ => cases h
  | .ix k :: p, q, t, u, w, h => by
    cases t with
    | lst f ts =>
      cases f with
      | own =>
        have w1 : ∀ r, (T.lst .own ts).sub (.ix k :: r) = (match ts[k]? with | some t => t.sub r | none => none) := fun _ => rfl
        have w2 : ∀ r x, (T.lst .own ts).putAt (.ix k :: r) x = (match ts[k]? with | some t => .lst .own (ts.set k (t.putAt r x)) | none => .non) := fun _ _ => rfl
        rw [List.cons_append, w2, w2]
        rw [w1] at h
        cases e2 : ts[k]? with
        | none => rfl
        | some t1 => rw [e2] at h; dsimp only; rw [T.putAt_append h]
      | _ => cases h
    | _ => cases h
theorem subAt_append {i : Nat} {p q : List Step} {u : T} (h : subAt env i p = some u) : subAt env i (p ++ q) = u.sub q := by
  unfold subAt at h ⊢
  cases e : env[i]? with
  | none => rw [e] at h; cases h
  | some o =>
    rw [e] at h
    cases o with
    | none => cases h
    | some t => exact T.sub_append h
theorem putPath_append {i : Nat} {p q : List Step} {u w : T} (h : subAt env i p = some u) : putPath env i (p ++ q) w = putPath env i p (u.putAt q w) := by
  unfold subAt at h
  unfold putPath
  cases e : env[i]? with
  | none => rfl
  | some o =>
    rw [e] at h
    cases o with
    | none => rfl
    | some t => dsimp only; rw [T.putAt_append h]
theorem fldIx_get {n : Nat} : ∀ {ns : List Nat} {vs : List V} {j : Nat} {v : V} (inj : ∀ a b, N.att a = N.att b → a = b), fldIx ns n = some j → vs[j]? = some v → (fldsOf N ns vs).lookup (N.att n) = some v
  | [], _, _, _, _, h, _ => by cases h
  | m :: ns, vs, j, v, inj, h, e => by
    have we : fldIx (m :: ns) n = if m = n then some 0 else (fldIx ns n).map (· + 1) := rfl
    rw [we] at h
    cases vs with
    | nil => simp at e
    | cons v0 vs =>
      by_cases c : m = n
      · subst c
        rw [if_pos rfl] at h
        cases h
        simp at e; subst e
        simp [fldsOf]
      · rw [if_neg c] at h
        obtain ⟨j', e1, rfl⟩ := Option.map_eq_some_iff.mp h
        have ne : (N.att n == N.att m) = false := beq_eq_false_iff_ne.mpr fun z => c (inj _ _ z).symm
        show List.lookup (N.att n) ((N.att m, v0) :: (fldsOf N ns vs)) = _
        rw [List.lookup_cons, ne]
        exact fldIx_get inj e1 (by simpa using e)
/-- a field of what is seen -/
theorem Foc.fd {i n c : Nat} {p : List Step} {ns : List Nat} {ts : List T} {v : V} {j : Nat} {u : T} (inj : ∀ a b, N.att a = N.att b → a = b) (f : Foc N F B H env σ fp i p (.ins .own c ns ts) v) (ej : fldIx ns n = some j) (eu : ts[j]? = some u) :
    ∃ a dx vs w, v = .ref a ∧ H a = some (.ins (N.cls c) dx (fldsOf N ns vs)) ∧ (fldsOf N ns vs).lookup (N.att n) = some w ∧ Foc N F B H env σ fp i (p ++ [.fd n]) u w := by
  obtain ⟨pre, g, post, efp, r, es, rb⟩ := f
  obtain ⟨a, dx, vs, rfl, l, g1, rfl, h1, h0, so, hR⟩ := r
  obtain ⟨w, pre1, g2, post1, ev, rfl, r2, rb2⟩ := hR.focus so eu
  refine ⟨a, dx, vs, w, rfl, h1, fldIx_get inj ej ev, pre ++ (a :: dx :: pre1), g2, post1 ++ post, by rw [efp]; simp, r2, ?_, fun F' B' H' t' g' sf sb k ho r' => ?_⟩
  · rw [subAt_append es]
    show (match fldIx ns n with | some j => (match ts[j]? with | some t => t.sub [] | none => none) | none => none) = some u
    rw [ej]; dsimp only; rw [eu]; cases u <;> rfl
  · rw [putPath_append es]
    have ep : (T.ins .own c ns ts).putAt [.fd n] t' = .ins .own c ns (ts.set j t') := by
      show (match fldIx ns n with | some j => (match ts[j]? with | some t => T.ins .own c ns (ts.set j (t.putAt [] t')) | none => .non) | none => .non) = _
      rw [ej]; dsimp only; rw [eu]; cases u <;> rfl
    rw [ep]
    have hb := rb F' B' H' (.ins .own c ns (ts.set j t')) (a :: dx :: (pre1 ++ (g' ++ post1))) sf sb (fun b hb o q => k b (hb.elim (fun z => .inl (List.mem_append_left _ z)) fun z => .inr (List.mem_append_right _ z)) o q) rfl
      ⟨a, dx, vs, rfl, by rw [List.length_set]; exact l, pre1 ++ (g' ++ post1), rfl, k a (.inl (by simp)) _ h1, k dx (.inl (by simp)) _ h0, ?_, rb2 F' B' H' t' g' sf (fun b hb o q => k b (hb.elim (fun z => .inl (by simp [z])) fun z => .inr (List.mem_append_left _ z)) o q) r'⟩
    · have e : pre ++ (a :: dx :: pre1) ++ (g' ++ (post1 ++ post)) = pre ++ ((a :: dx :: (pre1 ++ (g' ++ post1))) ++ post) := by simp
      rw [e]; exact hb
    · refine List.all_eq_true.mpr fun x hx => ?_
      rcases List.mem_or_eq_of_mem_set hx with z | z
      · exact List.all_eq_true.mp so x z
      · rw [z]; exact T.solid_iff.mpr (.inl ho)
theorem ixOf_eq {n : Nat} {i : Int} : ixOf n i = ixN n i := rfl
/-- an item of what is seen -/
theorem Foc.ix {i j : Nat} {p : List Step} {ts : List T} {v : V} {u : T} (f : Foc N F B H env σ fp i p (.lst .own ts) v) (eu : ts[j]? = some u) :
    ∃ a vs w, v = .ref a ∧ H a = some (.lst vs) ∧ ts.length = vs.length ∧ vs[j]? = some w ∧ Foc N F B H env σ fp i (p ++ [.ix j]) u w := by
  obtain ⟨pre, g, post, efp, r, es, rb⟩ := f
  obtain ⟨a, vs, rfl, l, g1, rfl, h1, so, hR⟩ := r
  obtain ⟨w, pre1, g2, post1, ev, rfl, r2, rb2⟩ := hR.focus so eu
  refine ⟨a, vs, w, rfl, h1, hR.len, ev, pre ++ (a :: pre1), g2, post1 ++ post, by rw [efp]; simp, r2, ?_, fun F' B' H' t' g' sf sb k ho r' => ?_⟩
  · rw [subAt_append es]
    show (match ts[j]? with | some t => t.sub [] | none => none) = some u
    rw [eu]; cases u <;> rfl
  · rw [putPath_append es]
    have ep : (T.lst .own ts).putAt [.ix j] t' = .lst .own (ts.set j t') := by
      show (match ts[j]? with | some t => T.lst .own (ts.set j (t.putAt [] t')) | none => .non) = _
      rw [eu]; cases u <;> rfl
    rw [ep]
    have hb := rb F' B' H' (.lst .own (ts.set j t')) (a :: (pre1 ++ (g' ++ post1))) sf sb (fun b hb o q => k b (hb.elim (fun z => .inl (List.mem_append_left _ z)) fun z => .inr (List.mem_append_right _ z)) o q) rfl
      ⟨a, vs, rfl, by rw [List.length_set]; exact l, pre1 ++ (g' ++ post1), rfl, k a (.inl (by simp)) _ h1, ?_, rb2 F' B' H' t' g' sf (fun b hb o q => k b (hb.elim (fun z => .inl (by simp [z])) fun z => .inr (List.mem_append_left _ z)) o q) r'⟩
    · have e : pre ++ (a :: pre1) ++ (g' ++ (post1 ++ post)) = pre ++ ((a :: (pre1 ++ (g' ++ post1))) ++ post) := by simp
      rw [e]; exact hb
    · refine List.all_eq_true.mpr fun x hx => ?_
      rcases List.mem_or_eq_of_mem_set hx with z | z
      · exact List.all_eq_true.mp so x z
      · rw [z]; exact T.solid_iff.mpr (.inl ho)
/-- the reading of a place -/
def DoesLv (N : Nm) (t : TE) (q : LvE) : Prop := ∀ F0 B F H env σ fp Q, Sim N F0 B F H env σ fp →
  (match q env with
    | some (i, p) => (match subAt env i p with
      | some u => ∀ F' H' v, Ext F H F' H' → Foc N F' B H' env σ fp i p u v → Q v H'
      | none => False)
    | none => False) → t σ H Q
theorem lv_var {i : Nat} : DoesLv N (tVar i) (lvVar i) := by
  intro F0 B F H env σ fp Q s w
  have we : lvVar i env = some (i, []) := rfl
  rw [we] at w
  dsimp only at w
  cases e : env[i]? with
  | none => rw [show subAt env i [] = none by unfold subAt; rw [e]] at w; exact w.elim
  | some o =>
    cases o with
    | none => rw [show subAt env i [] = none by unfold subAt; rw [e]] at w; exact w.elim
    | some t =>
      rw [show subAt env i [] = some t by unfold subAt; rw [e]; cases t <;> rfl] at w
      obtain ⟨v, ev, f⟩ := foc_var s e
      exact ⟨v, ev, w F H v (Ext.refl s.fh) f⟩
theorem lv_fld {t : TE} {q : LvE} {c n : Nat} (inj : ∀ a b, N.att a = N.att b → a = b) (hC : Cls N.K (N.cls c)) (hn : NoAttr N.K (N.cls c) (N.att n)) (hq : DoesLv N t q) : DoesLv N (tFld N.K t (N.att n)) (lvFld c n q) := by
  intro F0 B F H env σ fp Q s w
  refine hq F0 B F H env σ fp _ s ?_
  have we : lvFld c n q env = (match q env with
    | some (i, p) => (match subAt env i p with | some (.ins .own c' _ _) => if c' = c then some (i, p ++ [.fd n]) else none | _ => none)
    | none => none) := rfl
  rw [we] at w
  cases e : q env with
  | none => rw [e] at w; exact w
  | some ip =>
    obtain ⟨i, p⟩ := ip
    rw [e] at w
    dsimp only at w ⊢
    cases es : subAt env i p with
    | none => rw [es] at w; exact w
    | some u =>
      rw [es] at w
      cases u with
      | ins f c' ns ts =>
        cases f with
        | own =>
          dsimp only at w
          by_cases ec : c' = c
          · subst ec
            rw [if_pos rfl] at w
            dsimp only at w
            rw [subAt_append es] at w
            have w1 : (T.ins .own c' ns ts).sub [.fd n] = (match fldIx ns n with | some j => (match ts[j]? with | some t => t.sub [] | none => none) | none => none) := rfl
            rw [w1] at w
            cases ej : fldIx ns n with
            | none => rw [ej] at w; exact w.elim
            | some j =>
              rw [ej] at w
              dsimp only at w
              cases eu : ts[j]? with
              | none => rw [eu] at w; exact w.elim
              | some u =>
                rw [eu] at w
                have eu' : u.sub [] = some u := by cases u <;> rfl
                dsimp only at w
                rw [eu'] at w
                intro F' H' v ex f
                obtain ⟨a, dx, vs, x, rfl, hA, l, f2⟩ := f.fd inj ej eu
                exact ⟨a, _, dx, _, x, rfl, hA, hC, hn, l, w F' H' x ex f2⟩
          · rw [if_neg ec] at w; exact w.elim
        | _ => exact w.elim
      | _ => exact w.elim
theorem lv_ix {t ti : TE} {q : LvE} {a : P} (hq : DoesLv N t q) (ha : DoesP N W ti a) : DoesLv N (tOp (rIxL N.K) t ti) (lvIx q a) := by
  intro F0 B F H env σ fp Q s w
  refine hq F0 B F H env σ fp _ s ?_
  have we : lvIx q a env = (match q env with
    | some (i, p) => (match subAt env i p, a env with
      | some (.lst .own ts), .ok (.int k) => (match ixOf ts.length k with | some j => some (i, p ++ [.ix j]) | none => none)
      | _, _ => none)
    | none => none) := rfl
  rw [we] at w
  cases e : q env with
  | none => rw [e] at w; exact w
  | some ip =>
    obtain ⟨i, p⟩ := ip
    rw [e] at w
    dsimp only at w ⊢
    cases es : subAt env i p with
    | none => rw [es] at w; exact w
    | some u =>
      rw [es] at w
      cases u with
      | lst f ts =>
        cases f with
        | own =>
          dsimp only at w ⊢
          intro F' H' v ex f
          refine ha F0 B F' H' env σ fp _ (s.ext ex) ?_
          revert w
          cases a env with
          | bad => exact fun w => w.elim
          | exc x => exact fun w => w.elim
          | ok k =>
            cases k with
            | int k =>
              dsimp only
              cases ej : ixOf ts.length k with
              | none => exact fun w => w.elim
              | some j =>
                dsimp only
                rw [subAt_append es]
                have w1 : (T.lst .own ts).sub [.ix j] = (match ts[j]? with | some t => t.sub [] | none => none) := rfl
                rw [w1]
                cases eu : ts[j]? with
                | none => exact fun w => w.elim
                | some u =>
                  have eu' : u.sub [] = some u := by cases u <;> rfl
                  dsimp only
                  rw [eu']
                  intro w F2 H2 v2 g2 e2 k2
                  obtain ⟨rfl, _⟩ := k2.r
                  obtain ⟨b, vs, x, rfl, hA, hl, ev, f2⟩ := (f.grow e2.f e2.h).ix eu
                  refine ⟨b, vs, k, x, rfl, rfl, SqL.of hA, ?_, w F2 H2 x (ex.trans e2) f2⟩
                  unfold atI
                  rw [← hl, ← ixOf_eq, ej]
                  exact ev
            | _ => exact fun w => w.elim
        | _ => exact w.elim
      | _ => exact w.elim

/-- what a method does to one's own thing -/
def UpdV (N : Nm) (r : V → List V → Hp → VK → Prop) (op : T → List T → Option (T × T)) : Prop := ∀ F B H t v g as vs ga Q, Same F H → Same B H → R N F B H t v g → t.flag = .own → Rs N F B H as vs ga → (g ++ ga).Nodup → (∀ a ∈ g ++ ga, F a = none ∧ B a = none) →
  (match op t as with
    | some (t', res) => ∀ H' g' w gw, (∀ b, b ∉ g → H' b = H b) → t'.flag = .own → R N F B H' t' v g' → R N F B H' res w gw → (g' ++ gw).Nodup → (∀ b ∈ g' ++ gw, b ∈ g ++ ga) → Q w H'
    | none => False) → r v vs H Q
theorem does_upd {to : TE} {ta : TA} {q : LvE} {as : A} {op : T → List T → Option (T × T)} {r : V → List V → Hp → VK → Prop} {ty : String} (hu : UpdV N r op) (hty : ∀ F B H t v g as x, op t as = some x → t.flag = .own → R N F B H t v g → tyV N.K ty v H) (hq : DoesLv N to q) (ha : DoesA N W ta as) :
    DoesI N W (tBM N.K ty r to ta) (iUpd q as op) := by
  intro F0 B F H env σ fp Q s w
  refine hq F0 B F H env σ fp _ s ?_
  have we : iUpd q as op env = (match q env with
    | some (i, p) => (match subAt env i p with
      | some t => (match t.flag with
        | .own => (match as env with
          | .ok ts => (match op t ts with | some (u, r) => .ok r (putPath env i p u) | none => .bad)
          | _ => .bad)
        | _ => .bad)
      | none => .bad)
    | none => .bad) := rfl
  rw [we] at w
  cases e : q env with
  | none => rw [e] at w; exact w
  | some ip =>
    obtain ⟨i, p⟩ := ip
    rw [e] at w
    dsimp only at w ⊢
    cases es : subAt env i p with
    | none => rw [es] at w; exact w
    | some t =>
      rw [es] at w
      dsimp only at w ⊢
      cases hf : t.flag with
      | frz => rw [hf] at w; exact w.elim
      | bor => rw [hf] at w; exact w.elim
      | tmp => rw [hf] at w; exact w.elim
      | own =>
        rw [hf] at w
        dsimp only at w
        intro F1 H1 v ex f
        have s1 := s.ext ex
        -- the thing's type: from what is done to it
        have tyOf : ∀ {ts x}, op t ts = some x → tyV N.K ty v H1 := fun h => by
          obtain ⟨pre, g, post, _, r, _⟩ := f
          exact hty F1 B H1 t v g _ _ h hf r
        cases ea : as env with
        | bad => rw [ea] at w; exact w.elim
        | exc x => rw [ea] at w; exact w.elim
        | ok ts =>
          rw [ea] at w
          dsimp only at w
          cases eo : op t ts with
          | none => rw [eo] at w; exact w.elim
          | some tr =>
            obtain ⟨t', res⟩ := tr
            rw [eo] at w
            refine ⟨tyOf eo, ha F0 B F1 H1 env σ fp _ s1 ?_⟩
            rw [ea]
            intro F2 H2 vs ga e2 hRa nda newa
            have f2 := f.grow e2.f e2.h
            obtain ⟨pre, g, post, efp, rt, _, rb⟩ := f2
            have s2 := s1.ext e2
            have nd := s2.nd
            rw [efp] at nd
            obtain ⟨m1, m2, m3⟩ := nodup_mid nd
            have outg : ∀ a ∈ g, F2 a = none ∧ B a = none := fun a ha => s2.out a (by rw [efp]; exact List.mem_append_right _ (List.mem_append_left _ ha))
            have outa : ∀ a ∈ ga, F2 a = none ∧ B a = none := fun a ha => ⟨(newa a ha).2, s1.bh.free (newa a ha).1⟩
            have apart : ∀ a ∈ ga, a ∉ fp := fun a ha z => s1.sl.cells a z (newa a ha).1
            refine hu F2 B H2 t v g ts vs ga Q s2.fh s2.bh rt hf hRa (List.nodup_append.mpr ⟨m2, nda, fun x hx y hy z => apart y hy (by rw [efp, ← z]; exact List.mem_append_right _ (List.mem_append_left _ hx))⟩) (fun a ha => (List.mem_append.mp ha).elim (outg a) (outa a)) ?_
            rw [eo]
            intro H3 g' w3 gw keep ho r3 rw3 nd3 sub3
            have inq : ∀ b, b ∈ pre ∨ b ∈ post → b ∉ g := fun b hb z => hb.elim (m3 b z).1 (m3 b z).2
            obtain ⟨k1, k2, k3⟩ := List.nodup_append.mp nd3
            have off : ∀ b, b ∈ pre ∨ b ∈ post → b ∉ g' ++ gw := fun b hb z => by
              rcases List.mem_append.mp (sub3 b z) with q | q
              · exact inq b hb q
              · exact apart b q (by rw [efp]; rcases hb with hb | hb; exact List.mem_append_left _ hb; exact List.mem_append_right _ (List.mem_append_right _ hb))
            have s3 : Sim N F0 B F2 H3 (putPath env i p t') σ (pre ++ (g' ++ post)) := by
              refine ⟨s2.f0, fun a o q => ?_, fun a o q => ?_, s2.fr, rb F2 B H3 t' g' Same.rfl' Same.rfl' (fun b hb o q => by rw [keep b (inq b hb)]; exact q) ho r3, nodup_put m1 k1 fun a ha => ⟨fun z => off a (.inl z) (List.mem_append_left _ ha), fun z => off a (.inr z) (List.mem_append_left _ ha)⟩, fun a ha => ?_⟩
              · rw [keep a fun z => by rw [(outg a z).1] at q; cases q]; exact s2.fh a o q
              · rw [keep a fun z => by rw [(outg a z).2] at q; cases q]; exact s2.bh a o q
              · rcases List.mem_append.mp ha with z | z
                · exact s2.out a (by rw [efp]; exact List.mem_append_left _ z)
                · rcases List.mem_append.mp z with z | z
                  · rcases List.mem_append.mp (sub3 a (List.mem_append_left _ z)) with q | q
                    · exact outg a q
                    · exact outa a q
                  · exact s2.out a (by rw [efp]; exact List.mem_append_right _ (List.mem_append_right _ z))
            refine w F2 H3 _ w3 gw s3 (ex.f.trans e2.f) ⟨rw3, ?_, fun a ha => ?_⟩
            · refine List.nodup_append.mpr ⟨s3.nd, k2, fun a ha b hb z => ?_⟩
              subst z
              rcases List.mem_append.mp ha with q | q
              · exact off a (.inl q) (List.mem_append_right _ hb)
              · rcases List.mem_append.mp q with q | q
                · exact k3 a q a hb rfl
                · exact off a (.inr q) (List.mem_append_right _ hb)
            · rcases List.mem_append.mp (sub3 a (List.mem_append_right _ ha)) with q | q
              · exact outg a q
              · exact outa a q
end
end Cd

set_option Elab.async false
set_option linter.all false
set_option maxRecDepth 100000
/-! Values. -/
namespace Cd
open PySem L2
section
variable {N : Nm} {W : WX} {ps : List Nat} {F B H F' B' H' F1 H1 F2 H2 F0 : Hp} {env : Env} {σ σ1 σ2 : St} {fp : List Addr} {WR' : WR}
theorem R.intI (i : Int) : R N F B H (.int i) (.int i) [] := ⟨rfl, rfl⟩
theorem Wants.nowI {i : Int} {Q : VK} (s : Same F H) (w : Wants N WR' F B H (.ok (.int i)) Q) : Q (.int i) H := w.now s (R.intI i)
theorem v2_int {f : Int → Int → T} {h : Int → Int → V} (hf : ∀ i j F B H, R N F B H (f i j) (h i j) []) : V2 N WR' (rI0 h) (gInt2 f) := by
  intro F B H x y v w gx gy Q sf sb rx ry hw
  cases x with
  | int i =>
    cases y with
    | int j => exact ⟨i, j, rx.1, ry.1, hw.now sf (hf i j _ _ _)⟩
    | _ => exact hw.elim
  | _ => exact hw.elim
theorem v_add : V2 N WR' (rI0 fun i j => .int (i + j)) gAdd := v2_int fun _ _ _ _ _ => ⟨rfl, rfl⟩
theorem v_sub : V2 N WR' (rI0 fun i j => .int (i - j)) gSub := v2_int fun _ _ _ _ _ => ⟨rfl, rfl⟩
theorem v_lt : V2 N WR' (rI0 fun i j => .bl (decide (i < j))) gLt := v2_int fun _ _ _ _ _ => ⟨rfl, rfl⟩
theorem v_le : V2 N WR' (rI0 fun i j => .bl (decide (i ≤ j))) gLe := v2_int fun _ _ _ _ _ => ⟨rfl, rfl⟩
theorem v_gt : V2 N WR' (rI0 fun i j => .bl (decide (j < i))) gGt := v2_int fun _ _ _ _ _ => ⟨rfl, rfl⟩
theorem v_ge : V2 N WR' (rI0 fun i j => .bl (decide (j ≤ i))) gGe := v2_int fun _ _ _ _ _ => ⟨rfl, rfl⟩
theorem v2_intC {C : Int → Int → Prop} {h : Int → Int → Int} {g : T → T → PRes} (h1 : ∀ i j, g (.int i) (.int j) = .bad ∨ (C i j ∧ g (.int i) (.int j) = .ok (.int (h i j)))) (h2 : ∀ x y, (∀ i j, ¬ (x = .int i ∧ y = .int j)) → g x y = .bad) : V2 N WR' (rI C fun i j => .int (h i j)) g := by
  intro F B H x y v w gx gy Q sf sb rx ry hw
  by_cases hx : ∃ i j, x = .int i ∧ y = .int j
  · obtain ⟨i, j, rfl, rfl⟩ := hx
    rcases h1 i j with e | ⟨c, e⟩
    · rw [e] at hw; exact hw.elim
    · rw [e] at hw; exact ⟨i, j, rx.1, ry.1, c, hw.nowI sf⟩
  · rw [h2 x y fun i j z => hx ⟨i, j, z⟩] at hw; exact hw.elim
theorem v_mul : V2 N WR' (rI CMul fun i j => .int (i * j)) gMul := v2_intC (fun i j => by
  show (if (-(2 ^ 64) < i ∧ i < 2 ^ 64) ∨ (-(2 ^ 64) < j ∧ j < 2 ^ 64) then PRes.ok (.int (i * j)) else .bad) = _ ∨ _
  by_cases c : (-(2 ^ 64) < i ∧ i < 2 ^ 64) ∨ (-(2 ^ 64) < j ∧ j < 2 ^ 64)
  · exact .inr ⟨c, if_pos c⟩
  · exact .inl (if_neg c)) fun x y h => by cases x <;> cases y <;> first | rfl | exact absurd ⟨rfl, rfl⟩ (h _ _)
theorem v_mod : V2 N WR' (rI (fun _ j => j ≠ 0) fun i j => .int (i.fmod j)) gMod := v2_intC (fun i j => by
  show (if j = 0 then PRes.bad else .ok (.int (i.fmod j))) = _ ∨ _
  by_cases c : j = 0
  · exact .inl (if_pos c)
  · exact .inr ⟨c, if_neg c⟩) fun x y h => by cases x <;> cases y <;> first | rfl | exact absurd ⟨rfl, rfl⟩ (h _ _)
theorem v_div : V2 N WR' (rI CDivN fun i j => .int (i.fdiv j)) gDiv := v2_intC (fun i j => by
  show (if j ≠ 0 ∧ j.natAbs < 1073741824 then PRes.ok (.int (i.fdiv j)) else .bad) = _ ∨ _
  by_cases c : j ≠ 0 ∧ j.natAbs < 1073741824
  · exact .inr ⟨c, if_pos c⟩
  · exact .inl (if_neg c)) fun x y h => by cases x <;> cases y <;> first | rfl | exact absurd ⟨rfl, rfl⟩ (h _ _)
theorem v_pow : V2 N WR' (rI CPow fun i j => .int (i ^ j.toNat)) gPow := v2_intC (fun i j => by
  show (if 0 ≤ j ∧ j ≤ 1000000 ∧ i.natAbs < 2 ^ 64 then PRes.ok (.int (i ^ j.toNat)) else .bad) = _ ∨ _
  by_cases c : 0 ≤ j ∧ j ≤ 1000000 ∧ i.natAbs < 2 ^ 64
  · exact .inr ⟨c, if_pos c⟩
  · exact .inl (if_neg c)) fun x y h => by cases x <;> cases y <;> first | rfl | exact absurd ⟨rfl, rfl⟩ (h _ _)
theorem v_neg : V1 N WR' (rU fun i => .int (-i)) gNeg := by
  intro F B H x v gx Q sf sb rx hw
  cases x with
  | int i => exact ⟨i, rx.1, hw.nowI sf⟩
  | _ => exact hw.elim
theorem R.isNon {t : T} {v : V} {g : List Addr} (h : R N F B H t v g) : decide (v = .non) = isNon t := by
  cases t with
  | non => rw [h.1]; rfl
  | bl b => rw [h.1]; rfl
  | int b => rw [h.1]; rfl
  | str b => rw [h.1]; rfl
  | lst f ts => obtain ⟨a, vs, rfl, _⟩ := h; rfl
  | tup f ts => obtain ⟨a, vs, rfl, _⟩ := h; rfl
  | dK f k ts => obtain ⟨a, vs, rfl, _⟩ := h; rfl
  | dT f k ts => obtain ⟨a, vs, rfl, _⟩ := h; rfl
  | ins f c k ts => obtain ⟨a, dx, vs, rfl, _⟩ := h; rfl
  | exc c ts => obtain ⟨_, a, rfl, _⟩ := h; rfl
  | kon l ts => obtain ⟨_, a, vs, g, rfl, _⟩ := h; rfl
theorem v_isN : V2 N WR' (fun x y H Q => y = .non ∧ Q (.bl (decide (x = .non))) H) (fun x y => match y with | .non => gIsN x | _ => .bad) := by
  intro F B H x y v w gx gy Q sf sb rx ry hw
  cases y with
  | non =>
    refine ⟨ry.1, ?_⟩
    rw [rx.isNon]
    cases x <;> exact hw.nowB sf
  | _ => exact hw.elim
theorem v_notN : V2 N WR' (fun x y H Q => y = .non ∧ Q (.bl (!decide (x = .non))) H) (fun x y => match y with | .non => gNotN x | _ => .bad) := by
  intro F B H x y v w gx gy Q sf sb rx ry hw
  cases y with
  | non =>
    refine ⟨ry.1, ?_⟩
    rw [rx.isNon]
    cases x <;> exact hw.nowB sf
  | _ => exact hw.elim

/-! ### plain data -/
mutual
def toD : T → PyData
  | .non => .none
  | .bl b => .bool b
  | .int i => .int i
  | .str x => .str (S x)
  | .lst _ ts => .list (toDs ts)
  | .tup _ ts => .tuple (toDs ts)
  | _ => .none
def toDs : List T → List PyData
  | [] => []
  | t :: ts => toD t :: toDs ts
end
theorem toDs_eq : ∀ ts : List T, toDs ts = ts.map toD
  | [] => rfl
  | t :: ts => by show toD t :: toDs ts = _; rw [toDs_eq ts]; rfl
mutual
theorem Rs.dp {k : Nat} (sf : Same F H) (sb : Same B H) (ih : ∀ (F B H : Hp) (t : T) (v : V) (g : List Addr), Same F H → Same B H → R N F B H t v g → shal k t = true → Dp N.K H v (toD t)) : ∀ {ts : List T} {vs : List V} {g : List Addr}, Rs N F B H ts vs g → ts.all (shal k) = true → DpAll N.K H vs (toDs ts)
  | [], _, _, h, _ => by rw [h.1]; exact .nil
  | t :: ts, _, _, h, hs => by
    obtain ⟨v, vs', g1, g2, rfl, rfl, h1, h2⟩ := h
    rw [List.all_cons, Bool.and_eq_true] at hs
    exact .cons (ih F B H t v g1 sf sb h1 hs.1) (Rs.dp sf sb ih h2 hs.2)
end
theorem shal_of {k : Nat} {f : Fl} {t : T} : shal k (t.of f) = shal k t := by
  cases t <;> cases k <;> rfl
theorem toD_of {f : Fl} {t : T} : toD (t.of f) = toD t := by cases t <;> rfl
theorem toDs_of {f : Fl} (ts : List T) : toDs (ts.map (T.of f)) = toDs ts := by
  rw [toDs_eq, toDs_eq, List.map_map]
  exact List.map_congr_left fun t _ => toD_of
theorem all_of {k : Nat} {f : Fl} (ts : List T) : (ts.map (T.of f)).all (shal k) = ts.all (shal k) := by
  rw [List.all_map]
  exact congrArg ts.all (funext fun t => shal_of)
theorem R.dp : ∀ (k : Nat) (F B H : Hp) (t : T) (v : V) (g : List Addr), Same F H → Same B H → R N F B H t v g → shal k t = true → Dp N.K H v (toD t) := by
  intro k
  induction k with
  | zero =>
    intro F B H t v g sf sb h hs
    cases t with
    | non => rw [h.1]; exact .non
    | bl b => rw [h.1]; exact .bl b
    | int b => rw [h.1]; exact .int b
    | str b => rw [h.1]; exact .str _
    | _ => cases hs
  | succ k ih =>
    intro F B H t v g sf sb h hs
    cases t with
    | non => rw [h.1]; exact .non
    | bl b => rw [h.1]; exact .bl b
    | int b => rw [h.1]; exact .int b
    | str b => rw [h.1]; exact .str _
    | lst f ts =>
      obtain ⟨a, vs, rfl, _, h1, h2⟩ := h.list sf sb
      have q := Rs.dp sf sb ih h2 (by rw [all_of]; exact hs)
      rw [toDs_of] at q
      exact .lst (SqL.of h1) q
    | tup f ts =>
      obtain ⟨a, vs, rfl, _, h1, h2⟩ := h.tuple sf sb
      have q := Rs.dp sf sb ih h2 (by rw [all_of]; exact hs)
      rw [toDs_of] at q
      exact .tup (SqT.of h1) q
    | _ => cases hs
theorem depthAll_le {k : Nat} : ∀ {ds : List PyData}, (∀ d ∈ ds, d.depth ≤ k) → PyData.depthAll ds ≤ k
  | [], _ => by simp [PyData.depthAll]
  | d :: ds, h => by
    have h1 := h d (List.mem_cons_self ..)
    have h2 := depthAll_le fun x hx => h x (List.mem_cons_of_mem _ hx)
    simp only [PyData.depthAll]
    omega
theorem shal_depth : ∀ (k : Nat) (t : T), shal k t = true → (toD t).depth ≤ k := by
  intro k
  induction k with
  | zero => intro t h; cases t <;> first | (simp [toD, PyData.depth]; done) | cases h
  | succ k ih =>
    have key : ∀ ts : List T, ts.all (shal k) = true → PyData.depthAll (toDs ts) ≤ k := fun ts hs => by
      rw [toDs_eq]
      refine depthAll_le fun d hd => ?_
      obtain ⟨t, ht, rfl⟩ := List.mem_map.mp hd
      exact ih t (List.all_eq_true.mp hs t ht)
    intro t h
    cases t with
    | lst f ts => have := key ts h; simp only [toD, PyData.depth]; omega
    | tup f ts => have := key ts h; simp only [toD, PyData.depth]; omega
    | non => simp [toD, PyData.depth]
    | bl _ => simp [toD, PyData.depth]
    | int _ => simp [toD, PyData.depth]
    | str _ => simp [toD, PyData.depth]
    | _ => cases h
theorem okS_lay {x : List Nat} (h : okS x = true) : PyData.strOk (S x) = true := by
  unfold PyData.strOk S
  rw [← Array.all_toList]
  exact h
theorem R.lay : ∀ (k : Nat) (F B H : Hp) (t : T) (v : V) (g : List Addr), Same F H → Same B H → R N F B H t v g → shal k t = true → (toD t).canLay0 = true := by
  intro k
  induction k with
  | zero =>
    intro F B H t v g sf sb h hs
    cases t with
    | str b => simp only [toD, PyData.canLay0]; exact okS_lay h.2.1
    | non => simp [toD, PyData.canLay0]
    | bl _ => simp [toD, PyData.canLay0]
    | int _ => simp [toD, PyData.canLay0]
    | _ => cases hs
  | succ k ih =>
    have key : ∀ {F B H : Hp} {ts : List T} {vs : List V} {g : List Addr}, Same F H → Same B H → Rs N F B H ts vs g → ts.all (shal k) = true → PyData.canLayAll0 (toDs ts) = true := by
      intro F B H ts
      induction ts with
      | nil => intro vs g _ _ _ _; simp [toDs, PyData.canLayAll0]
      | cons t ts iht =>
        intro vs g sf sb h hs
        obtain ⟨v, vs', g1, g2, rfl, rfl, h1, h2⟩ := h
        rw [List.all_cons, Bool.and_eq_true] at hs
        simp only [toDs, PyData.canLayAll0, ih F B H t v g1 sf sb h1 hs.1, iht sf sb h2 hs.2, Bool.and_self]
    intro F B H t v g sf sb h hs
    cases t with
    | str b => simp only [toD, PyData.canLay0]; exact okS_lay h.2.1
    | non => simp [toD, PyData.canLay0]
    | bl _ => simp [toD, PyData.canLay0]
    | int _ => simp [toD, PyData.canLay0]
    | lst f ts =>
      obtain ⟨a, vs, rfl, _, h1, h2⟩ := h.list sf sb
      have q := key sf sb h2 (by rw [all_of]; exact hs)
      rw [toDs_of] at q
      simp only [toD, PyData.canLay0]; exact q
    | tup f ts =>
      obtain ⟨a, vs, rfl, _, h1, h2⟩ := h.tuple sf sb
      have q := key sf sb h2 (by rw [all_of]; exact hs)
      rw [toDs_of] at q
      simp only [toD, PyData.canLay0]; exact q
    | _ => cases hs
theorem R.shaped {k : Nat} {t : T} {v : V} {g : List Addr} (hk : k ≤ 64) (sf : Same F H) (sb : Same B H) (h : R N F B H t v g) (hs : shal k t = true) : SeqAt.shaped (toD t) = true := by
  show ((toD t).canLay0 && decide ((toD t).depth ≤ 64)) = true
  rw [h.lay k F B H t v g sf sb hs, decide_eq_true (Nat.le_trans (shal_depth k t hs) hk)]
  rfl
theorem S_inj {x y : List Nat} : (S x == S y) = (x == y) := by
  by_cases e : x = y
  · subst e; simp
  · have h : S x ≠ S y := fun z => e (by
      have := congrArg Str.cps z
      simpa [S] using this)
    rw [beq_eq_false_iff_ne.mpr h, beq_eq_false_iff_ne.mpr e]
theorem eqv_toD : ∀ (k : Nat) (t u : T), shal k t = true → shal k u = true → PyData.eqv (toD t) (toD u) = eqB t u := by
  intro k
  induction k with
  | zero =>
    intro t u ht hu
    cases t <;> first | (cases ht; done) | (cases u <;> first | (cases hu; done) | (simp only [toD, PyData.eqv, eqB]; done) | (simp only [toD, PyData.eqv, eqB]; exact S_inj))
  | succ k ih =>
    have key : ∀ ts us : List T, ts.all (shal k) = true → us.all (shal k) = true → PyData.eqvAll (toDs ts) (toDs us) = eqBs ts us := by
      intro ts
      induction ts with
      | nil => intro us _ _; cases us <;> simp [toDs, PyData.eqvAll, eqBs]
      | cons t ts iht =>
        intro us h1 h2
        cases us with
        | nil => simp [toDs, PyData.eqvAll, eqBs]
        | cons u us =>
          rw [List.all_cons, Bool.and_eq_true] at h1 h2
          simp only [toDs, PyData.eqvAll, eqBs, ih t u h1.1 h2.1, iht us h1.2 h2.2]
    intro t u ht hu
    cases t <;> first | (cases ht; done) | (cases u <;> first | (cases hu; done) | (simp only [toD, PyData.eqv, eqB]; done) | (simp only [toD, PyData.eqv, eqB]; exact S_inj) | (simp only [toD, PyData.eqv, eqB]; exact key _ _ ht hu))
theorem v_eq : V2 N WR' (rEqD N.K) gEq := by
  intro F B H x y v w gx gy Q sf sb rx ry hw
  unfold gEq at hw
  by_cases c : (shal 20 x && shal 20 y) = true
  · rw [if_pos c] at hw
    rw [Bool.and_eq_true] at c
    refine ⟨toD x, toD y, rx.dp 20 _ _ _ _ _ _ sf sb c.1, ry.dp 20 _ _ _ _ _ _ sf sb c.2, rx.shaped (by decide) sf sb c.1, ry.shaped (by decide) sf sb c.2, ?_⟩
    rw [eqv_toD 20 x y c.1 c.2]
    exact hw.nowB sf
  · rw [if_neg c] at hw; exact hw.elim
theorem v_ne : V2 N WR' (rNeD N.K) gNe := by
  intro F B H x y v w gx gy Q sf sb rx ry hw
  unfold gNe at hw
  by_cases c : (shal 20 x && shal 20 y) = true
  · rw [if_pos c] at hw
    rw [Bool.and_eq_true] at c
    refine ⟨toD x, toD y, rx.dp 20 _ _ _ _ _ _ sf sb c.1, ry.dp 20 _ _ _ _ _ _ sf sb c.2, rx.shaped (by decide) sf sb c.1, ry.shaped (by decide) sf sb c.2, ?_⟩
    rw [eqv_toD 20 x y c.1 c.2]
    exact hw.nowB sf
  · rw [if_neg c] at hw; exact hw.elim
end
end Cd

set_option Elab.async false
set_option linter.all false
set_option maxRecDepth 100000
/-! More values. -/
namespace Cd
open PySem L2
section
variable {X : Cx}
/-- t[i] of a list, a tuple, a dict -/
def rIxA (K : PySem.W.Frag) : R2 := fun x y H Q => rIxL K x y H Q ∨ rIxT K x y H Q ∨ ∃ a v, x = .ref a ∧ DGet H a y (some v) ∧ Q v H
theorem ix_any (hu : X.A.units + 1 < cLine) : IxR X (rIxA X.K) := by
  intro value slice pins s σ H x y v u Q I rx ry h hs
  rcases h with h | h | ⟨a, w, rfl, g, q⟩
  · exact ix_list value slice pins s σ H x y v u Q I rx ry h hs
  · exact ix_tup value slice pins s σ H x y v u Q I rx ry h hs
  · cases rx
    exact PyProof.Rows.tail_any (dict_typeIs I g) PySem.F.slot_dict_getitem.lookup (d_getItem hu I g ry fun w' s' I' rw' => ⟨w, H, I', rw', q⟩) hs
/-- x in y -/
def rInA (K : PySem.W.Frag) : R2 := fun x y H Q => rInD K x y H Q ∨ rIn K false x y H Q ∨ ∃ a o, y = .ref a ∧ DGet H a x o ∧ Q (.bl o.isSome) H
def rNotInA (K : PySem.W.Frag) : R2 := fun x y H Q => rNotInD K x y H Q ∨ rIn K true x y H Q ∨ ∃ a o, y = .ref a ∧ DGet H a x o ∧ Q (.bl (!o.isSome)) H
theorem op_inA (hu : X.A.units + 65 < cLine) : OpR X (compareOp .In) (rInA X.K) := by
  intro pins s σ H x y v u Q I rx ry h
  rcases h with h | h | ⟨a, o, rfl, g, q⟩
  · exact op_inD hu pins s σ H x y v u Q I rx ry h
  · exact op_in_seq pins s σ H x y v u Q I rx ry h
  · cases ry
    exact d_in (by omega) I g rx fun s' I' => ⟨.bl o.isSome, H, I', rfl, q⟩
theorem op_notInA (hu : X.A.units + 65 < cLine) : OpR X (compareOp .NotIn) (rNotInA X.K) := by
  intro pins s σ H x y v u Q I rx ry h
  rcases h with h | h | ⟨a, o, rfl, g, q⟩
  · exact op_notInD hu pins s σ H x y v u Q I rx ry h
  · exact op_notIn_seq pins s σ H x y v u Q I rx ry h
  · cases ry
    exact d_notIn (by omega) I g rx fun s' I' => ⟨.bl (!o.isSome), H, I', rfl, q⟩
/-- a stored item, of a list or a dict -/
def rSetA : V → V → V → Hp → (Hp → Prop) → Prop := fun o i v H Q => rSetL o i v H Q ∨ ∃ a H', o = .ref a ∧ DPut H a i v H' ∧ Q H'
end
section
variable {N : Nm} {W : WX} {ps : List Nat} {F B H F' B' H' F1 H1 F2 H2 F0 : Hp} {env : Env} {σ σ1 σ2 : St} {fp : List Addr} {WR' : WR}
/-! ### dicts -/
theorem look_val {κ : Type} {κ' : Type} [DecidableEq κ] [DecidableEq κ'] {g : κ → κ'} (inj : ∀ a b, g a = g b → a = b) : ∀ {ks : List κ} {ts : List T} {vs : List V} {k : κ}, ks.length = ts.length → Rs N F B H ts vs [] →
    (look ks ts k = none ∧ valV ((ks.map g).zip vs) (g k) = none) ∨ ∃ t v, look ks ts k = some t ∧ valV ((ks.map g).zip vs) (g k) = some v ∧ R N F B H t v []
  | [], [], _, _, _, h => .inl ⟨rfl, rfl⟩
  | [], _ :: _, _, _, h, _ => by cases h
  | _ :: _, [], _, _, h, _ => by cases h
  | k :: ks, t :: ts, _, k0, h, hR => by
    obtain ⟨v, vs', g1, g2, rfl, e2, h1, h2⟩ := hR
    obtain ⟨rfl, rfl⟩ := List.append_eq_nil_iff.mp e2.symm
    have we : look (k :: ks) (t :: ts) k0 = if k = k0 then some t else look ks ts k0 := rfl
    by_cases c : k = k0
    · subst c
      exact .inr ⟨t, v, by rw [we, if_pos rfl], by rw [List.map_cons, List.zip_cons_cons, valV_pos rfl], h1⟩
    · have ne : ¬ g k = g k0 := fun z => c (inj _ _ z)
      rw [we, if_neg c, List.map_cons, List.zip_cons_cons, valV_neg ne]
      exact look_val inj (by simpa using h) h2
theorem look_map {κ : Type} [DecidableEq κ] {f : T → T} {k : κ} : ∀ {ks : List κ} {ts : List T}, look ks (ts.map f) k = (look ks ts k).map f
  | [], _ => rfl
  | _ :: _, [] => rfl
  | k1 :: ks, t :: ts => by
    show (if k1 = k then some (f t) else look ks (ts.map f) k) = (if k1 = k then some t else look ks ts k).map f
    rw [look_map]; split <;> rfl
theorem R.dictK {f : Fl} {ks : List Int} {ts : List T} {v : V} {g : List Addr} (sf : Same F H) (sb : Same B H) (h : R N F B H (.dK f ks ts) v g) : ∃ a vs, v = .ref a ∧ ks.length = ts.length ∧ H a = some (.dK ((ks.map Sum.inl).zip vs)) ∧ Rs N F B H (ts.map (T.of f)) vs [] := by
  obtain ⟨a, vs, rfl, l, h⟩ := h
  refine ⟨a, vs, rfl, l, ?_⟩
  cases f with
  | own => obtain ⟨g, rfl, h1, _, h3⟩ := h; exact ⟨h1, Rs.map (fun t v fp r => r.asT sb _) h3⟩
  | frz => obtain ⟨_, h1, g, h3⟩ := h; exact ⟨sf _ _ h1, Rs.map (fun t v fp r => by rw [show T.of .frz t = t.fl1 (fun _ => .frz) from T.fl1_eq (by cases t.flag <;> rfl)]; exact r.asF _ _) h3⟩
  | bor => obtain ⟨_, h1, g, h3⟩ := h; exact ⟨sb _ _ h1, Rs.map (fun t v fp r => r.asB _) h3⟩
  | tmp => obtain ⟨_, h1, g, h3⟩ := h; exact ⟨h1, Rs.map (fun t v fp r => r.asT Same.rfl' _) h3⟩
theorem R.dictT {f : Fl} {ks : List (List Int)} {ts : List T} {v : V} {g : List Addr} (sf : Same F H) (sb : Same B H) (h : R N F B H (.dT f ks ts) v g) : ∃ a vs, v = .ref a ∧ ks.length = ts.length ∧ H a = some (.dT ((ks.map (List.map Sum.inl)).zip vs)) ∧ Rs N F B H (ts.map (T.of f)) vs [] := by
  obtain ⟨a, vs, rfl, l, h⟩ := h
  refine ⟨a, vs, rfl, l, ?_⟩
  cases f with
  | own => obtain ⟨g, rfl, h1, _, h3⟩ := h; exact ⟨h1, Rs.map (fun t v fp r => r.asT sb _) h3⟩
  | frz => obtain ⟨_, h1, g, h3⟩ := h; exact ⟨sf _ _ h1, Rs.map (fun t v fp r => by rw [show T.of .frz t = t.fl1 (fun _ => .frz) from T.fl1_eq (by cases t.flag <;> rfl)]; exact r.asF _ _) h3⟩
  | bor => obtain ⟨_, h1, g, h3⟩ := h; exact ⟨sb _ _ h1, Rs.map (fun t v fp r => r.asB _) h3⟩
  | tmp => obtain ⟨_, h1, g, h3⟩ := h; exact ⟨h1, Rs.map (fun t v fp r => r.asT Same.rfl' _) h3⟩
theorem intsOf_vals : ∀ {ts : List T} {is : List Int} {vs : List V} {g : List Addr}, intsOf ts = some is → Rs N F B H ts vs g → vs = is.map V.int
  | [], is, vs, g, h, hR => by cases h; exact hR.1
  | t :: ts, is, vs, g, h, hR => by
    obtain ⟨v, vs', g1, g2, rfl, rfl, h1, h2⟩ := hR
    cases t with
    | int i =>
      have we : intsOf (.int i :: ts) = (match intsOf ts with | some is => some (i :: is) | none => none) := rfl
      rw [we] at h
      cases e : intsOf ts with
      | none => rw [e] at h; cases h
      | some js => rw [e] at h; cases h; rw [h1.1, intsOf_vals e h2]; rfl
    | _ => cases h
theorem map_inl_inj : ∀ {a b : List Int}, a.map (Sum.inl : Int → Key) = b.map (Sum.inl : Int → Key) → a = b
  | [], [], _ => rfl
  | [], _ :: _, h => by cases h
  | _ :: _, [], h => by cases h
  | x :: a, y :: b, h => by
    obtain ⟨h1, h2⟩ := List.cons.inj h
    rw [Sum.inl.inj h1, map_inl_inj h2]
/-- a value that may be absent -/
def OptR (N : Nm) (F B H : Hp) : Option T → Option V → Prop
  | none, r => r = none
  | some t, r => ∃ w, r = some w ∧ R N F B H t w []
/-- what a dict holds at a key -/
theorem getD_ok {d k : T} {v y : V} {gd gk : List Addr} {o : Option T} (sf : Same F H) (sb : Same B H) (hd : R N F B H d v gd) (hk : R N F B H k y gk) (h : getD? d k = some o) :
    ∃ a r, v = .ref a ∧ DGet H a y r ∧ IsD H a ∧ OptR N F B H o r := by
  cases d with
  | dK f ks ts =>
    cases k with
    | int k =>
      obtain ⟨a, vs, rfl, l, hA, hR⟩ := hd.dictK sf sb
      have e : o = (look ks ts k).map (T.of f) := by cases h; rfl
      have hl : ks.length = (ts.map (T.of f)).length := by simpa using l
      have := look_val (g := (Sum.inl : Int → Key)) (fun _ _ z => Sum.inl.inj z) (k := k) hl hR
      rw [look_map, ← e] at this
      refine ⟨a, valV ((ks.map (Sum.inl : Int → Key)).zip vs) (Sum.inl k), rfl, ?_, .inl ⟨_, .inl hA⟩, ?_⟩
      · rw [hk.1]; exact DGet.k (k := (Sum.inl k : Key)) hA
      · rcases this with ⟨e1, e2⟩ | ⟨t, w, e1, e2, r⟩
        · rw [e1]; exact e2
        · rw [e1]; exact ⟨w, e2, r⟩
    | _ => cases h
  | dT f ks ts =>
    cases k with
    | tup fk us =>
      cases fk with
      | frz =>
        have we : getD? (.dT f ks ts) (.tup .frz us) = (match intsOf us with | some k => some ((look ks ts k).map (T.of f)) | none => none) := rfl
        rw [we] at h
        cases ei : intsOf us with
        | none => rw [ei] at h; cases h
        | some k =>
          rw [ei] at h
          have e : o = (look ks ts k).map (T.of f) := by cases h; rfl
          obtain ⟨a, vs, rfl, l, hA, hR⟩ := hd.dictT sf sb
          obtain ⟨b, ws, rfl, _, _, hb, g, hRk⟩ := hk
          have ew := intsOf_vals ei hRk
          have hl : ks.length = (ts.map (T.of f)).length := by simpa using l
          have := look_val (g := (List.map (Sum.inl : Int → Key))) (fun _ _ z => map_inl_inj z) (k := k) hl hR
          rw [look_map, ← e] at this
          have hb' : H b = some (.tup ((k.map (Sum.inl : Int → Key)).map kV)) := by
            rw [sf _ _ hb, ew, List.map_map]; rfl
          refine ⟨a, valV ((ks.map (List.map (Sum.inl : Int → Key))).zip vs) (k.map (Sum.inl : Int → Key)), rfl, DGet.t hA hb', .inr ⟨_, .inl hA⟩, ?_⟩
          rcases this with ⟨e1, e2⟩ | ⟨t, w, e1, e2, r⟩
          · rw [e1]; exact e2
          · rw [e1]; exact ⟨w, e2, r⟩
      | _ => cases h
    | _ => cases h
  | _ => cases k <;> cases h
theorem R.kon {l : Bool} {ts : List T} {v : V} {g : List Addr} (sf : Same F H) (h : R N F B H (.kon l ts) v g) : ∃ a vs, v = .ref a ∧ ts.length ≤ sizeLine ∧ (SqL N.K H a vs ∨ SqT N.K H a vs) ∧ (l = true → SqL N.K H a vs) ∧ Rs N F B H (ts.map (T.of .frz)) vs [] := by
  obtain ⟨_, a, vs, g', rfl, n, h1, h2⟩ := h
  refine ⟨a, vs, rfl, n, ?_, ?_, Rs.map (fun t v fp r => by rw [show T.of .frz t = t.fl1 (fun _ => .frz) from T.fl1_eq (by cases t.flag <;> rfl)]; exact r.asF _ _) h2⟩
  · cases l with
    | true => exact .inl (sf.seq h1)
    | false => exact .inr (Same.seqT sf h1)
  · intro e; subst e; exact sf.seq h1
theorem Rs.nil_at {ts : List T} : ∀ {vs : List V} {j : Nat} {t : T}, Rs N F B H ts vs [] → ts[j]? = some t → ∃ v, vs[j]? = some v ∧ R N F B H t v [] := by
  induction ts with
  | nil => intro vs j t _ h; simp at h
  | cons u us ih =>
    intro vs j t h e
    obtain ⟨v, vs', g1, g2, rfl, e2, h1, h2⟩ := h
    obtain ⟨rfl, rfl⟩ := List.append_eq_nil_iff.mp e2.symm
    cases j with
    | zero => simp at e; subst e; exact ⟨v, by simp, h1⟩
    | succ j => obtain ⟨w, e1, r⟩ := ih h2 (by simpa using e); exact ⟨w, by simpa using e1, r⟩
theorem atI_of {vs : List V} {n : Nat} {i : Int} {j : Nat} {w : V} (hl : n = vs.length) (e : ixOf n i = some j) (ew : vs[j]? = some w) : atI vs i = some w := by
  unfold atI
  rw [← hl, ← ixOf_eq, e]
  exact ew
theorem v_ix : V2 N WR' (rIxA N.K) gIx := by
  intro F B H x y v w gx gy Q sf sb rx ry hw
  have dic : (∀ f ts, x ≠ .lst f ts) → (∀ f ts, x ≠ .tup f ts) → (∀ f ts, x ≠ .kon f ts) → rIxA N.K v w H Q := by
    intro n1 n2 n3
    have e : gIx x y = (match getD? x y with | some (some t) => .ok t | _ => .bad) := by
      cases x with
      | lst f ts => exact absurd rfl (n1 f ts)
      | tup f ts => exact absurd rfl (n2 f ts)
      | kon f ts => exact absurd rfl (n3 f ts)
      | _ => rfl
    rw [e] at hw
    cases eg : getD? x y with
    | none => rw [eg] at hw; exact hw.elim
    | some o =>
      rw [eg] at hw
      cases o with
      | none => exact hw.elim
      | some t =>
        obtain ⟨a, r, rfl, g, _, u, rfl, ru⟩ := getD_ok sf sb rx ry eg
        exact .inr (.inr ⟨a, u, rfl, g, hw.now sf ru⟩)
  cases x with
  | lst f ts =>
    cases y with
    | int k =>
      obtain ⟨a, vs, rfl, _, h1, h2⟩ := rx.list sf sb
      have we : gIx (.lst f ts) (.int k) = (match ixOf ts.length k with | some j => ofO ((ts[j]?).map (T.of f)) | none => .bad) := rfl
      rw [we] at hw
      cases ej : ixOf ts.length k with
      | none => rw [ej] at hw; exact hw.elim
      | some j =>
        rw [ej] at hw
        dsimp only at hw
        cases et : ts[j]? with
        | none => rw [et] at hw; exact hw.elim
        | some t =>
          rw [et] at hw
          obtain ⟨u, eu, ru⟩ := Rs.nil_at h2 (j := j) (t := t.of f) (by rw [List.getElem?_map, et]; rfl)
          exact .inl ⟨a, vs, k, u, rfl, ry.1, SqL.of h1, atI_of (by rw [← h2.len, List.length_map]) ej eu, hw.now sf ru⟩
    | _ => exact hw.elim
  | tup f ts =>
    cases y with
    | int k =>
      obtain ⟨a, vs, rfl, _, h1, h2⟩ := rx.tuple sf sb
      have we : gIx (.tup f ts) (.int k) = (match ixOf ts.length k with | some j => ofO ((ts[j]?).map (T.of f)) | none => .bad) := rfl
      rw [we] at hw
      cases ej : ixOf ts.length k with
      | none => rw [ej] at hw; exact hw.elim
      | some j =>
        rw [ej] at hw
        dsimp only at hw
        cases et : ts[j]? with
        | none => rw [et] at hw; exact hw.elim
        | some t =>
          rw [et] at hw
          obtain ⟨u, eu, ru⟩ := Rs.nil_at h2 (j := j) (t := t.of f) (by rw [List.getElem?_map, et]; rfl)
          exact .inr (.inl ⟨a, vs, k, u, rfl, ry.1, SqT.of h1, atI_of (by rw [← h2.len, List.length_map]) ej eu, hw.now sf ru⟩)
    | _ => exact hw.elim
  | kon l ts =>
    cases y with
    | int k =>
      obtain ⟨a, vs, rfl, _, h1, _, h2⟩ := rx.kon sf
      have we : gIx (.kon l ts) (.int k) = (match ixOf ts.length k with | some j => ofO ((ts[j]?).map (T.of .frz)) | none => .bad) := rfl
      rw [we] at hw
      cases ej : ixOf ts.length k with
      | none => rw [ej] at hw; exact hw.elim
      | some j =>
        rw [ej] at hw
        dsimp only at hw
        cases et : ts[j]? with
        | none => rw [et] at hw; exact hw.elim
        | some t =>
          rw [et] at hw
          obtain ⟨u, eu, ru⟩ := Rs.nil_at h2 (j := j) (t := t.of .frz) (by rw [List.getElem?_map, et]; rfl)
          have ea : atI vs k = some u := atI_of (by rw [← h2.len, List.length_map]) ej eu
          rcases h1 with h1 | h1
          · exact .inl ⟨a, vs, k, u, rfl, ry.1, h1, ea, hw.now sf ru⟩
          · exact .inr (.inl ⟨a, vs, k, u, rfl, ry.1, h1, ea, hw.now sf ru⟩)
    | _ => exact hw.elim
  | _ => exact dic (fun _ _ z => by cases z) (fun _ _ z => by cases z) (fun _ _ z => by cases z)
/-- flat items -/
theorem R.flat {t : T} {v : V} {g : List Addr} (h : R N F B H t v g) (hs : shal 0 t = true) : flatV v = true := by
  cases t with
  | non => rw [h.1]; rfl
  | bl _ => rw [h.1]; rfl
  | int _ => rw [h.1]; rfl
  | str _ => rw [h.1]; rfl
  | _ => cases hs
theorem R.eqV {t u : T} {v w : V} {g g' : List Addr} (h : R N F B H t v g) (h' : R N F B H u w g') (hs : shal 0 t = true) (hs' : shal 0 u = true) : L2.eqV v w = eqB t u := by
  cases t <;> first | (cases hs; done) | (cases u <;> first | (cases hs'; done) | (rw [h.1, h'.1]; rfl) | (rw [h.1, h'.1]; exact S_inj))
theorem Rs.flats : ∀ {ts : List T} {vs : List V} {g : List Addr}, Rs N F B H ts vs g → ts.all (shal 0) = true → vs.all flatV = true
  | [], _, _, h, _ => by rw [h.1]; rfl
  | t :: ts, _, _, h, hs => by
    obtain ⟨v, vs', g1, g2, rfl, rfl, h1, h2⟩ := h
    rw [List.all_cons, Bool.and_eq_true] at hs
    rw [List.all_cons, h1.flat hs.1, h2.flats hs.2]; rfl
theorem Rs.inV {x : T} {v : V} {g' : List Addr} (hx : R N F B H x v g') (sx : shal 0 x = true) : ∀ {ts : List T} {vs : List V} {g : List Addr}, Rs N F B H ts vs g → ts.all (shal 0) = true → L2.inV v vs = ts.any (fun t => eqB t x)
  | [], _, _, h, _ => by rw [h.1]; rfl
  | t :: ts, _, _, h, hs => by
    obtain ⟨w, vs', g1, g2, rfl, rfl, h1, h2⟩ := h
    rw [List.all_cons, Bool.and_eq_true] at hs
    have ih := Rs.inV hx sx h2 hs.2
    unfold L2.inV at ih ⊢
    rw [List.any_cons, List.any_cons, ih, h1.eqV hx hs.1 sx]
theorem eqB_of {f : Fl} {t x : T} : eqB (t.of f) x = eqB t x := by cases t <;> cases x <;> rfl
theorem any_of {f : Fl} {x : T} (ts : List T) : (ts.map (T.of f)).any (fun t => eqB t x) = ts.any fun t => eqB t x := by
  rw [List.any_map]; exact congrArg ts.any (funext fun t => eqB_of)
theorem toDs_any {x : T} (sx : shal 19 x = true) : ∀ {ts : List T}, ts.all (shal 19) = true → ((toDs ts).any fun z => PyData.eqv z (toD x)) = ts.any fun t => eqB t x
  | [], _ => rfl
  | t :: ts, h => by
    rw [List.all_cons, Bool.and_eq_true] at h
    show ((toD t :: toDs ts).any _) = _
    rw [List.any_cons, List.any_cons, toDs_any sx h.2, eqv_toD 19 t x h.1 sx]
theorem in_core {x y : T} {v w : V} {gx gy : List Addr} {b : Bool} (sf : Same F H) (sb : Same B H) (rx : R N F B H x v gx) (ry : R N F B H y w gy) (h : inB x y = some b) :
    (∃ ds, Dp N.K H v (toD x) ∧ Dp N.K H w (.list ds) ∧ SeqAt.shaped (toD x) = true ∧ SeqAt.shaped (.list ds) = true ∧ (ds.any fun z => PyData.eqv z (toD x)) = b) ∨
    (∃ p xs, w = .ref p ∧ (SqL N.K H p xs ∨ SqT N.K H p xs) ∧ flatV v = true ∧ xs.all flatV = true ∧ L2.inV v xs = b) ∨
    ∃ a o, w = .ref a ∧ DGet H a v o ∧ o.isSome = b := by
  have dic : (∀ f ts, y ≠ .lst f ts) → (∀ f ts, y ≠ .tup f ts) → (∀ f ts, y ≠ .kon f ts) → ∃ a o, w = .ref a ∧ DGet H a v o ∧ o.isSome = b := by
    intro n1 n2 n3
    have e : inB x y = (match getD? y x with | some o => some o.isSome | none => none) := by
      cases y with
      | lst f ts => exact absurd rfl (n1 f ts)
      | tup f ts => exact absurd rfl (n2 f ts)
      | kon f ts => exact absurd rfl (n3 f ts)
      | _ => rfl
    rw [e] at h
    cases eg : getD? y x with
    | none => rw [eg] at h; cases h
    | some o =>
      rw [eg] at h
      cases h
      obtain ⟨a, r, rfl, g, _, hr⟩ := getD_ok sf sb ry rx eg
      refine ⟨a, r, rfl, g, ?_⟩
      cases o with
      | none => rw [show r = none from hr]; rfl
      | some t => obtain ⟨u, rfl, _⟩ := hr; rfl
  have flatC : ∀ {ts : List T} {f : Fl} {p : Addr} {vs : List V}, (SqL N.K H p vs ∨ SqT N.K H p vs) → Rs N F B H (ts.map (T.of f)) vs [] → (if shal 0 x && ts.all (shal 0) then some (ts.any fun t => eqB t x) else none) = some b →
      ∃ p' xs, V.ref p = .ref p' ∧ (SqL N.K H p' xs ∨ SqT N.K H p' xs) ∧ flatV v = true ∧ xs.all flatV = true ∧ L2.inV v xs = b := by
    intro ts f p vs hq hR e
    by_cases c : (shal 0 x && ts.all (shal 0)) = true
    · rw [if_pos c] at e
      cases e
      rw [Bool.and_eq_true] at c
      have hs : (ts.map (T.of f)).all (shal 0) = true := by rw [all_of]; exact c.2
      exact ⟨p, vs, rfl, hq, rx.flat c.1, hR.flats hs, by rw [Rs.inV rx c.1 hR hs, any_of]⟩
    · rw [if_neg c] at e; cases e
  cases y with
  | lst f ts =>
    obtain ⟨a, vs, rfl, _, h1, h2⟩ := ry.list sf sb
    have we : inB x (.lst f ts) = (if shal 19 x && ts.all (shal 19) then some (ts.any fun t => eqB t x) else none) := rfl
    rw [we] at h
    by_cases c : (shal 19 x && ts.all (shal 19)) = true
    · rw [if_pos c] at h
      cases h
      rw [Bool.and_eq_true] at c
      have hy : shal 20 (.lst f ts) = true := c.2
      exact .inl ⟨toDs ts, rx.dp 19 _ _ _ _ _ _ sf sb c.1, ry.dp 20 _ _ _ _ _ _ sf sb hy, rx.shaped (by decide) sf sb c.1, ry.shaped (k := 20) (by decide) sf sb hy, toDs_any c.1 c.2⟩
    · rw [if_neg c] at h; cases h
  | tup f ts =>
    obtain ⟨a, vs, rfl, _, h1, h2⟩ := ry.tuple sf sb
    exact .inr (.inl (flatC (.inr (SqT.of h1)) h2 h))
  | kon l ts =>
    obtain ⟨a, vs, rfl, _, h1, _, h2⟩ := ry.kon sf
    exact .inr (.inl (flatC h1 h2 h))
  | _ => exact .inr (.inr (dic (fun _ _ z => by cases z) (fun _ _ z => by cases z) (fun _ _ z => by cases z)))
theorem v_in : V2 N WR' (rInA N.K) gIn := by
  intro F B H x y v w gx gy Q sf sb rx ry hw
  unfold gIn at hw
  cases e : inB x y with
  | none => rw [e] at hw; exact hw.elim
  | some b =>
    rw [e] at hw
    have q := hw.nowB sf
    rcases in_core sf sb rx ry e with ⟨ds, h1, h2, h3, h4, rfl⟩ | ⟨p, xs, h1, h2, h3, h4, rfl⟩ | ⟨a, o, h1, h2, rfl⟩
    · exact .inl ⟨toD x, ds, h1, h2, h3, h4, q⟩
    · exact .inr (.inl ⟨p, xs, h1, h2, h3, h4, q⟩)
    · exact .inr (.inr ⟨a, o, h1, h2, q⟩)
theorem v_notIn : V2 N WR' (rNotInA N.K) gNotIn := by
  intro F B H x y v w gx gy Q sf sb rx ry hw
  unfold gNotIn at hw
  cases e : inB x y with
  | none => rw [e] at hw; exact hw.elim
  | some b =>
    rw [e] at hw
    have q := hw.nowB sf
    rcases in_core sf sb rx ry e with ⟨ds, h1, h2, h3, h4, rfl⟩ | ⟨p, xs, h1, h2, h3, h4, rfl⟩ | ⟨a, o, h1, h2, rfl⟩
    · exact .inl ⟨toD x, ds, h1, h2, h3, h4, q⟩
    · exact .inr (.inl ⟨p, xs, h1, h2, h3, h4, q⟩)
    · exact .inr (.inr ⟨a, o, h1, h2, q⟩)
/-! ### calls of built-ins -/
theorem Rs.one {t : T} {vs : List V} {g : List Addr} (h : Rs N F B H [t] vs g) : ∃ v, vs = [v] ∧ R N F B H t v g := by
  obtain ⟨v, vs', g1, g2, rfl, rfl, h1, rfl, rfl⟩ := h
  exact ⟨v, rfl, by rw [List.append_nil]; exact h1⟩
theorem Rs.two {t u : T} {vs : List V} {g : List Addr} (h : Rs N F B H [t, u] vs g) : ∃ v w g1 g2, vs = [v, w] ∧ R N F B H t v g1 ∧ R N F B H u w g2 := by
  obtain ⟨v, vs', g1, g2, rfl, rfl, h1, h2⟩ := h
  obtain ⟨w, rfl, h3⟩ := h2.one
  exact ⟨v, w, g1, g2, rfl, h1, h3⟩
theorem len1_inv {xs : List T} (h : gLen1 xs ≠ .bad) : ∃ t, xs = [t] ∧ gLen1 xs = gLen t := by
  match xs with
  | [] => exact absurd rfl h
  | [t] => exact ⟨t, rfl, rfl⟩
  | _ :: _ :: _ => exact absurd rfl h
theorem v_len : VL N WR' (fun xs H Q => ∃ p ys, xs = [.ref p] ∧ (SqL N.K H p ys ∨ SqT N.K H p ys) ∧ Q (.int ys.length) H) gLen1 := by
  intro F B H xs vs gx Q sf sb rx hw
  obtain ⟨t, rfl, e⟩ := len1_inv (xs := xs) fun z => by rw [z] at hw; exact hw
  rw [e] at hw
  clear e
  obtain ⟨v, rfl, r⟩ := rx.one
  cases t with
  | lst f ts =>
    obtain ⟨a, ws, rfl, _, h1, h2⟩ := r.list sf sb
    refine ⟨a, ws, rfl, .inl (SqL.of h1), ?_⟩
    rw [← h2.len, List.length_map]
    exact hw.nowI sf
  | tup f ts =>
    obtain ⟨a, ws, rfl, _, h1, h2⟩ := r.tuple sf sb
    refine ⟨a, ws, rfl, .inr (SqT.of h1), ?_⟩
    rw [← h2.len, List.length_map]
    exact hw.nowI sf
  | kon l ts =>
    obtain ⟨a, ws, rfl, _, h1, _, h2⟩ := r.kon sf
    refine ⟨a, ws, rfl, h1, ?_⟩
    rw [← h2.len, List.length_map]
    exact hw.nowI sf
  | _ => exact hw.elim
theorem two_inv {g : Int → Int → PRes} {xs : List T} {G : List T → PRes} (e0 : G [] = .bad) (e1 : ∀ t, G [t] = .bad) (e2 : ∀ t u, (∀ i j, t = .int i → u = .int j → False) → G [t, u] = .bad) (e3 : ∀ t u v vs, G (t :: u :: v :: vs) = .bad) (h : G xs ≠ .bad) : ∃ i j, xs = [.int i, .int j] := by
  match xs with
  | [] => exact absurd e0 h
  | [t] => exact absurd (e1 t) h
  | [t, u] =>
    by_cases c : ∀ i j, t = .int i → u = .int j → False
    · exact absurd (e2 t u c) h
    · simp only [Classical.not_forall] at c
      obtain ⟨i, j, rfl, rfl, _⟩ := c
      exact ⟨i, j, rfl⟩
  | t :: u :: v :: vs => exact absurd (e3 t u v vs) h
theorem min2_inv {xs : List T} (h : gMin2 xs ≠ .bad) : ∃ i j, xs = [.int i, .int j] :=
  two_inv (g := fun _ _ => .bad) rfl (fun t => by cases t <;> rfl) (fun t u c => by cases t <;> first | rfl | (cases u <;> first | rfl | exact (c _ _ rfl rfl).elim)) (fun t u v vs => by cases t <;> first | rfl | (cases u <;> rfl)) h
theorem max2_inv {xs : List T} (h : gMax2 xs ≠ .bad) : ∃ i j, xs = [.int i, .int j] :=
  two_inv (g := fun _ _ => .bad) rfl (fun t => by cases t <;> rfl) (fun t u c => by cases t <;> first | rfl | (cases u <;> first | rfl | exact (c _ _ rfl rfl).elim)) (fun t u v vs => by cases t <;> first | rfl | (cases u <;> rfl)) h
theorem v_min2 : VL N WR' (fun xs H Q => ∃ i j, xs = [.int i, .int j] ∧ Q (.int (if j < i then j else i)) H) gMin2 := by
  intro F B H xs vs gx Q sf sb rx hw
  obtain ⟨i, j, rfl⟩ := min2_inv (xs := xs) fun z => by rw [z] at hw; exact hw
  obtain ⟨v, w, g1, g2, rfl, h1, h2⟩ := rx.two
  exact ⟨i, j, by rw [h1.1, h2.1], hw.nowI sf⟩
theorem v_max2 : VL N WR' (fun xs H Q => ∃ i j, xs = [.int i, .int j] ∧ Q (.int (if j > i then j else i)) H) gMax2 := by
  intro F B H xs vs gx Q sf sb rx hw
  obtain ⟨i, j, rfl⟩ := max2_inv (xs := xs) fun z => by rw [z] at hw; exact hw
  obtain ⟨v, w, g1, g2, rfl, h1, h2⟩ := rx.two
  exact ⟨i, j, by rw [h1.1, h2.1], hw.nowI sf⟩
theorem int1_inv {xs : List T} (h : gInt1 xs ≠ .bad) : (∃ i, xs = [.int i]) ∨ ∃ b, xs = [.bl b] := by
  match xs with
  | [] => exact absurd rfl h
  | [t] => cases t <;> first | exact .inl ⟨_, rfl⟩ | exact .inr ⟨_, rfl⟩ | exact absurd rfl h
  | t :: _ :: _ => exact absurd (by cases t <;> rfl) h
theorem v_int1 : VL N WR' (fun xs H Q => (∃ i, xs = [.int i] ∧ Q (.int i) H) ∨ ∃ k, xs = [.bl k] ∧ Q (.int (if k then 1 else 0)) H) gInt1 := by
  intro F B H xs vs gx Q sf sb rx hw
  rcases int1_inv (xs := xs) fun z => by rw [z] at hw; exact hw with ⟨i, rfl⟩ | ⟨b, rfl⟩
  · obtain ⟨v, rfl, h1⟩ := rx.one
    exact .inl ⟨i, by rw [h1.1], hw.nowI sf⟩
  · obtain ⟨v, rfl, h1⟩ := rx.one
    exact .inr ⟨b, by rw [h1.1], hw.nowI sf⟩
/-- a list that is made -/
theorem Wants.newL {ts : List T} {vs : List V} {Q : VK} (sf : Same F H) (so : ts.all T.solid = true) (hl : ts.length ≤ sizeLine) (hR : Rs N F B H ts vs []) (w : Wants N WR' F B H (.ok (.lst .own ts)) Q) : ∀ l, H l = none → Q (.ref l) (upd H l (.lst vs)) := by
  intro l hn
  have hF : F l = none := none_of_not fun z => by
    cases q : F l with
    | none => exact z q
    | some o => rw [sf l o q] at hn; cases hn
  have sH : Same H (upd H l (.lst vs)) := fun a o q => by rw [upd_ne (fun z => by rw [z, hn] at q; cases q)]; exact q
  refine w F (upd H l (.lst vs)) (.ref l) [l] ⟨Same.rfl', sH, sf.trans sH, fun a h => .inl h⟩ ⟨⟨l, vs, rfl, hl, [], rfl, upd_same, so, ?_⟩, by simp, fun a ha => ?_⟩
  · exact Rs.move Same.rfl' (fun _ z => nomatch z) so hR
  · rw [List.mem_singleton] at ha
    subst ha
    exact ⟨hn, hF⟩
theorem v_list1 : VL N WR' (fun xs H Q => ∃ p ys, xs = [.ref p] ∧ (SqL N.K H p ys ∨ SqT N.K H p ys) ∧ ∀ l, H l = none → Q (.ref l) (upd H l (.lst ys))) gList1 := by
  intro F B H xs vs gx Q sf sb rx hw
  have h : gList1 xs ≠ .bad := fun z => by rw [z] at hw; exact hw
  match xs with
  | [] => exact absurd rfl h
  | t :: _ :: _ => exact absurd (by cases t <;> rfl) h
  | [t] =>
    cases t with
    | lst f ts =>
      obtain ⟨v, rfl, r⟩ := rx.one
      obtain ⟨a, ws, rfl, l, h1, h2⟩ := r.list sf sb
      have we : gList1 [.lst f ts] = if (ts.map (T.of f)).all T.solid then .ok (.lst .own (ts.map (T.of f))) else .bad := rfl
      rw [we] at hw
      by_cases c : (ts.map (T.of f)).all T.solid = true
      · rw [if_pos c] at hw
        exact ⟨a, ws, rfl, .inl (SqL.of h1), hw.newL sf c (by rw [List.length_map]; exact l) h2⟩
      · rw [if_neg c] at hw; exact hw.elim
    | tup f ts =>
      obtain ⟨v, rfl, r⟩ := rx.one
      obtain ⟨a, ws, rfl, l, h1, h2⟩ := r.tuple sf sb
      have we : gList1 [.tup f ts] = if (ts.map (T.of f)).all T.solid then .ok (.lst .own (ts.map (T.of f))) else .bad := rfl
      rw [we] at hw
      by_cases c : (ts.map (T.of f)).all T.solid = true
      · rw [if_pos c] at hw
        exact ⟨a, ws, rfl, .inr (SqT.of h1), hw.newL sf c (by rw [List.length_map]; exact l) h2⟩
      · rw [if_neg c] at hw; exact hw.elim
    | _ => exact absurd rfl h
theorem R.tyX {t : T} {v : V} {g : List Addr} {a : String} (sf : Same F H) (sb : Same B H) (h : R N F B H t v g) (ht : tyB t = some a) : TyX N.K H v (.type a) := by
  cases t with
  | non => cases ht; rw [h.1]; exact .base .non
  | bl _ => cases ht; rw [h.1]; exact .base (.bl _)
  | int _ => cases ht; rw [h.1]; exact .base (.int _)
  | str _ => cases ht; rw [h.1]; exact .base (.str _)
  | lst f ts => cases ht; obtain ⟨a, vs, rfl, _, h1, _⟩ := h.list sf sb; exact .base (.lst h1)
  | tup f ts => cases ht; obtain ⟨a, vs, rfl, _, h1, _⟩ := h.tuple sf sb; exact .base (.tup h1)
  | dK f ks ts => cases ht; obtain ⟨a, vs, rfl, _, h1, _⟩ := h.dictK sf sb; exact .base (.dK h1)
  | dT f ks ts => cases ht; obtain ⟨a, vs, rfl, _, h1, _⟩ := h.dictT sf sb; exact .base (.dT h1)
  | _ => cases ht
/-- isinstance(x, T), T built in -/
theorem does_isi {c : String} {ta : TE} {p : P} (hk : ∀ a, a ∈ ["NoneType", "bool", "int", "str", "list", "tuple", "dict"] → kitB a c = some (subTy a c)) (hp : DoesP N W ta p) : DoesP N W (tCB (rIsi N.K) (tCons ta (tCons (tC (.ty c)) tNil))) (p1 (gIsi c) p) := by
  intro F0 B F H env σ fp Q s w
  refine hp.bind s w fun F1 H1 x v gx s1 e1 k1 w1 => ?_
  have we : gIsi c x = (match tyB x with | some a => .ok (.bl (subTy a c)) | none => .bad) := rfl
  rw [we] at w1
  cases et : tyB x with
  | none => rw [et] at w1; exact w1.elim
  | some a =>
    rw [et] at w1
    have hm : a ∈ ["NoneType", "bool", "int", "str", "list", "tuple", "dict"] := by cases x <;> cases et <;> decide
    exact ⟨v, .ty c, .type a, .type c, subTy a c, rfl, .ty c, k1.r.tyX s1.fh s1.bh et, kit_ty (hk a hm), w1.nowB s1.fh⟩
end
end Cd

set_option Elab.async false
set_option linter.all false
set_option maxRecDepth 100000
/-! What methods and stores do to one's own things. -/
namespace Cd
open PySem L2
section
variable {N : Nm} {W : WX} {ps : List Nat} {F B H F' B' H' F1 H1 F2 H2 F0 : Hp} {env : Env} {σ σ1 σ2 : St} {fp : List Addr}
theorem Rs.append : ∀ {ts us : List T} {vs ws : List V} {g g' : List Addr}, Rs N F B H ts vs g → Rs N F B H us ws g' → Rs N F B H (ts ++ us) (vs ++ ws) (g ++ g')
  | [], _, _, _, _, _, h, h' => by rw [h.1, h.2]; exact h'
  | t :: ts, _, _, _, _, _, h, h' => by
    obtain ⟨v, vs', g1, g2, rfl, rfl, h1, h2⟩ := h
    exact ⟨v, _, g1, _, rfl, (List.append_assoc ..), h1, h2.append h'⟩
theorem Rs.single {t : T} {v : V} {g : List Addr} (h : R N F B H t v g) : Rs N F B H [t] [v] g := ⟨v, [], g, [], rfl, (List.append_nil g).symm, h, rfl, rfl⟩
theorem Rs.unappend : ∀ {ts us : List T} {vs : List V} {g : List Addr}, Rs N F B H (ts ++ us) vs g → ∃ v1 v2 g1 g2, vs = v1 ++ v2 ∧ g = g1 ++ g2 ∧ Rs N F B H ts v1 g1 ∧ Rs N F B H us v2 g2
  | [], _, vs, g, h => ⟨[], vs, [], g, rfl, rfl, ⟨rfl, rfl⟩, h⟩
  | t :: ts, _, _, _, h => by
    obtain ⟨v, vs', g1, g2, rfl, rfl, h1, h2⟩ := h
    obtain ⟨w1, w2, k1, k2, rfl, rfl, h3, h4⟩ := Rs.unappend h2
    exact ⟨v :: w1, w2, g1 ++ k1, k2, rfl, (List.append_assoc ..).symm, ⟨v, w1, g1, k1, rfl, rfl, h1, h3⟩, h4⟩
theorem Rs.rev : ∀ {ts : List T} {vs : List V} {g : List Addr}, Rs N F B H ts vs g → ∃ g', Rs N F B H ts.reverse vs.reverse g' ∧ g'.Perm g
  | [], _, _, h => by rw [h.1, h.2]; exact ⟨[], ⟨rfl, rfl⟩, .refl _⟩
  | t :: ts, _, _, h => by
    obtain ⟨v, vs', g1, g2, rfl, rfl, h1, h2⟩ := h
    obtain ⟨g', h3, p⟩ := h2.rev
    rw [List.reverse_cons, List.reverse_cons]
    exact ⟨g' ++ g1, h3.append (Rs.single h1), List.perm_append_comm.trans (List.Perm.append (.refl _) p)⟩
/-- past a change at a cell of another's -/
theorem Rs.past {ts : List T} {vs : List V} {g : List Addr} {a : Addr} {o : HO} (so : ts.all T.solid = true) (ha : a ∉ g) (h : Rs N F B H ts vs g) : Rs N F B (upd H a o) ts vs g :=
  Rs.move Same.rfl' (fun b hb x q => by rw [upd_ne (fun z => ha (by rw [← z]; exact hb))]; exact q) so h
theorem R.past {t : T} {v : V} {g : List Addr} {a : Addr} {o : HO} (so : t.solid = true) (ha : a ∉ g) (h : R N F B H t v g) : R N F B (upd H a o) t v g :=
  R.move Same.rfl' (fun b hb x q => by rw [upd_ne (fun z => ha (by rw [← z]; exact hb))]; exact q) so h
theorem all_app {p : T → Bool} {ts us : List T} : (ts ++ us).all p = (ts.all p && us.all p) := List.all_append
theorem line_eq : line = sizeLine := rfl
theorem u_append : UpdV N rAppend uAppend := by
  intro F B H t v g as vs ga Q sf sb r hf hR nd out w
  cases t with
  | lst f ts =>
    cases f with
    | own =>
      match as with
      | [] => exact w.elim
      | _ :: _ :: _ => exact w.elim
      | [u] =>
        obtain ⟨a, xs, rfl, l, g0, rfl, h1, so, h2⟩ := r
        obtain ⟨y, rfl, ry⟩ := hR.one
        have we : uAppend (.lst .own ts) [u] = if u.solid && decide (ts.length < line) then some (.lst .own (ts ++ [u]), .non) else none := rfl
        rw [we] at w
        by_cases c : (u.solid && decide (ts.length < line)) = true
        · rw [if_pos c] at w
          rw [Bool.and_eq_true] at c
          have cl : ts.length < sizeLine := of_decide_eq_true c.2
          obtain ⟨n1, n2, n3⟩ := List.nodup_append.mp nd
          have na : a ∉ g0 := (List.nodup_cons.mp n1).1
          have nga : a ∉ ga := fun z => n3 a (List.mem_cons_self ..) a z rfl
          refine ⟨a, xs, y, rfl, rfl, h1, by rw [← h2.len]; exact cl, ?_⟩
          refine w _ (a :: (g0 ++ ga)) .non [] (fun b hb => upd_ne (fun z => hb (by rw [z]; exact List.mem_cons_self ..))) rfl ⟨a, _, rfl, ?_, g0 ++ ga, rfl, upd_same, ?_, ?_⟩ ⟨rfl, rfl⟩ ?_ fun b hb => ?_
          · rw [List.length_append, List.length_singleton]; omega
          · rw [all_app, so]; simp [c.1]
          · exact (h2.past so na).append (Rs.single (ry.past c.1 nga))
          · rw [List.append_nil]; exact nd
          · rw [List.append_nil] at hb; exact hb
        · rw [if_neg c] at w; exact w.elim
    | _ => exact w.elim
  | _ => exact w.elim
theorem ty_lst {t : T} {v : V} {g : List Addr} (h : ∃ ts, t = .lst .own ts) (r : R N F B H t v g) : tyV N.K "list" v H := by
  obtain ⟨ts, rfl⟩ := h
  obtain ⟨a, xs, rfl, l, g0, rfl, h1, so, h2⟩ := r
  exact .inl ⟨rfl, xs, SqL.of h1⟩
theorem getLast_split {ts : List T} {u : T} (h : ts.getLast? = some u) : ts = ts.dropLast ++ [u] := by
  have hn : ts ≠ [] := fun z => by rw [z] at h; cases h
  have : ts.getLast hn = u := by rw [List.getLast?_eq_some_getLast hn] at h; exact Option.some.inj h
  rw [← this]; exact (List.dropLast_concat_getLast hn).symm
theorem u_pop : UpdV N rPop uPop := by
  intro F B H t v g as vs ga Q sf sb r hf hR nd out w
  cases t with
  | lst f ts =>
    cases f with
    | own =>
      match as with
      | _ :: _ => exact w.elim
      | [] =>
        obtain ⟨a, xs, rfl, l, g0, rfl, h1, so, h2⟩ := r
        obtain ⟨rfl, rfl⟩ := hR
        have we : uPop (.lst .own ts) [] = (match ts.getLast? with | some u => some (.lst .own ts.dropLast, u) | none => none) := rfl
        rw [we] at w
        cases e : ts.getLast? with
        | none => rw [e] at w; exact w.elim
        | some u =>
          rw [e] at w
          have es := getLast_split e
          generalize ts.dropLast = init at *
          subst es
          obtain ⟨v1, v2, g1, g2, rfl, rfl, h3, h4⟩ := h2.unappend
          obtain ⟨y, rfl, ry⟩ := h4.one
          rw [all_app, Bool.and_eq_true] at so
          have su : u.solid = true := by simpa using so.2
          rw [List.append_nil] at nd
          have na : a ∉ g1 ++ g2 := (List.nodup_cons.mp nd).1
          refine ⟨a, _, y, rfl, rfl, h1, by simp, ?_⟩
          rw [List.dropLast_concat]
          refine w _ (a :: g1) y g2 (fun b hb => upd_ne (fun z => hb (by rw [z]; exact List.mem_cons_self ..))) rfl ⟨a, _, rfl, ?_, g1, rfl, upd_same, so.1, ?_⟩ (ry.past su fun z => na (List.mem_append_right _ z)) nd fun b hb => by rw [List.append_nil]; exact hb
          · rw [List.length_append, List.length_singleton] at l; omega
          · exact h3.past so.1 fun z => na (List.mem_append_left _ z)
    | _ => exact w.elim
  | _ => exact w.elim
theorem u_clear : UpdV N rClear uClear := by
  intro F B H t v g as vs ga Q sf sb r hf hR nd out w
  cases t with
  | lst f ts =>
    cases f with
    | own =>
      match as with
      | _ :: _ => exact w.elim
      | [] =>
        obtain ⟨a, xs, rfl, l, g0, rfl, h1, so, h2⟩ := r
        obtain ⟨rfl, rfl⟩ := hR
        refine ⟨a, xs, rfl, rfl, h1, ?_⟩
        exact w _ [a] .non [] (fun b hb => upd_ne (fun z => hb (by rw [z]; exact List.mem_cons_self ..))) rfl ⟨a, [], rfl, Nat.zero_le _, [], rfl, upd_same, rfl, rfl, rfl⟩ ⟨rfl, rfl⟩ (by simp) fun b hb => by
          rw [List.append_nil, List.mem_singleton] at hb; subst hb; exact List.mem_cons_self ..
    | _ => exact w.elim
  | _ => exact w.elim
theorem u_reverse : UpdV N rReverse uReverse := by
  intro F B H t v g as vs ga Q sf sb r hf hR nd out w
  cases t with
  | lst f ts =>
    cases f with
    | own =>
      match as with
      | _ :: _ => exact w.elim
      | [] =>
        obtain ⟨a, xs, rfl, l, g0, rfl, h1, so, h2⟩ := r
        obtain ⟨rfl, rfl⟩ := hR
        refine ⟨a, xs, rfl, rfl, h1, ?_⟩
        rw [List.append_nil] at nd
        have na : a ∉ g0 := (List.nodup_cons.mp nd).1
        obtain ⟨g', h3, p⟩ := (h2.past (o := .lst xs.reverse) so na).rev
        refine w _ (a :: g') .non [] (fun b hb => upd_ne (fun z => hb (by rw [z]; exact List.mem_cons_self ..))) rfl ⟨a, _, rfl, by rw [List.length_reverse]; exact l, g', rfl, upd_same, by rw [List.all_reverse]; exact so, h3⟩ ⟨rfl, rfl⟩ ?_ fun b hb => ?_
        · rw [List.append_nil]; exact (List.Perm.cons a p).nodup_iff.mpr nd
        · rw [List.append_nil] at hb ⊢; exact (List.Perm.cons a p).subset hb
    | _ => exact w.elim
  | _ => exact w.elim
theorem ty_append {x : T × T} {t : T} {v : V} {g : List Addr} {as : List T} (h : uAppend t as = some x) (_ : t.flag = .own) (r : R N F B H t v g) : tyV N.K "list" v H := by
  refine ty_lst ?_ r
  cases t with
  | lst f ts => cases f with
    | own => exact ⟨ts, rfl⟩
    | _ => cases h
  | _ => cases h
theorem ty_pop {x : T × T} {t : T} {v : V} {g : List Addr} {as : List T} (h : uPop t as = some x) (_ : t.flag = .own) (r : R N F B H t v g) : tyV N.K "list" v H := by
  refine ty_lst ?_ r
  cases t with
  | lst f ts => cases f with
    | own => exact ⟨ts, rfl⟩
    | _ => cases h
  | _ => cases h
theorem ty_clear {x : T × T} {t : T} {v : V} {g : List Addr} {as : List T} (h : uClear t as = some x) (_ : t.flag = .own) (r : R N F B H t v g) : tyV N.K "list" v H := by
  refine ty_lst ?_ r
  cases t with
  | lst f ts => cases f with
    | own => exact ⟨ts, rfl⟩
    | _ => cases h
  | _ => cases h
theorem ty_reverse {x : T × T} {t : T} {v : V} {g : List Addr} {as : List T} (h : uReverse t as = some x) (_ : t.flag = .own) (r : R N F B H t v g) : tyV N.K "list" v H := by
  refine ty_lst ?_ r
  cases t with
  | lst f ts => cases f with
    | own => exact ⟨ts, rfl⟩
    | _ => cases h
  | _ => cases h
/-! ### stores -/
theorem Sim.store {i : Nat} {p : List Step} {t : T} {v : V} {gv : List Addr} (s2 : Sim N F0 B F H env σ fp) (f2 : Foc N F B H env σ fp i p t v) (nda : (fp ++ gv).Nodup) (outa : ∀ a ∈ gv, F a = none ∧ B a = none) :
    ∃ g, R N F B H t v g ∧ (g ++ gv).Nodup ∧ (∀ a ∈ g ++ gv, F a = none ∧ B a = none) ∧
      ∀ (H3 : Hp) (g' : List Addr) (t' : T), (∀ b, b ∉ g → H3 b = H b) → t'.flag = .own → R N F B H3 t' v g' → g'.Nodup → (∀ b ∈ g', b ∈ g ++ gv) → ∃ fp', Sim N F0 B F H3 (putPath env i p t') σ fp' := by
  obtain ⟨pre, g, post, efp, rt, _, rb⟩ := f2
  have nd := s2.nd
  rw [efp] at nd
  obtain ⟨m1, m2, m3⟩ := nodup_mid nd
  obtain ⟨_, n2, n3⟩ := List.nodup_append.mp nda
  have outg : ∀ a ∈ g, F a = none ∧ B a = none := fun a ha => s2.out a (by rw [efp]; exact List.mem_append_right _ (List.mem_append_left _ ha))
  have apart : ∀ a ∈ gv, a ∉ fp := fun a ha z => n3 a z a ha rfl
  refine ⟨g, rt, List.nodup_append.mpr ⟨m2, n2, fun x hx y hy z => apart y hy (by rw [efp, ← z]; exact List.mem_append_right _ (List.mem_append_left _ hx))⟩, fun a ha => (List.mem_append.mp ha).elim (outg a) (outa a), ?_⟩
  intro H3 g' t' keep ho r3 k1 sub3
  have inq : ∀ b, b ∈ pre ∨ b ∈ post → b ∉ g := fun b hb z => hb.elim (m3 b z).1 (m3 b z).2
  have off : ∀ b, b ∈ pre ∨ b ∈ post → b ∉ g' := fun b hb z => by
    rcases List.mem_append.mp (sub3 b z) with q | q
    · exact inq b hb q
    · exact apart b q (by rw [efp]; rcases hb with hb | hb; exact List.mem_append_left _ hb; exact List.mem_append_right _ (List.mem_append_right _ hb))
  refine ⟨pre ++ (g' ++ post), s2.f0, fun a o q => ?_, fun a o q => ?_, s2.fr, rb F B H3 t' g' Same.rfl' Same.rfl' (fun b hb o q => by rw [keep b (inq b hb)]; exact q) ho r3, nodup_put m1 k1 fun a ha => ⟨fun z => off a (.inl z) ha, fun z => off a (.inr z) ha⟩, fun a ha => ?_⟩
  · rw [keep a fun z => by rw [(outg a z).1] at q; cases q]; exact s2.fh a o q
  · rw [keep a fun z => by rw [(outg a z).2] at q; cases q]; exact s2.bh a o q
  · rcases List.mem_append.mp ha with z | z
    · exact s2.out a (by rw [efp]; exact List.mem_append_left _ z)
    · rcases List.mem_append.mp z with z | z
      · rcases List.mem_append.mp (sub3 a z) with q | q
        · exact outg a q
        · exact outa a q
      · exact s2.out a (by rw [efp]; exact List.mem_append_right _ (List.mem_append_right _ z))
/-- what a store does to one's own thing -/
def SetV (N : Nm) (t : TSet) (op : T → T → T → Option T) : Prop := ∀ F B H x o g k i u v gv Q, Same F H → Same B H → R N F B H x o g → x.flag = .own → R N F B H k i [] → R N F B H u v gv → (g ++ gv).Nodup → (∀ a ∈ g ++ gv, F a = none ∧ B a = none) →
  (match op x k u with
    | some x' => ∀ H' g', (∀ b, b ∉ g → H' b = H b) → x'.flag = .own → R N F B H' x' o g' → g'.Nodup → (∀ b ∈ g', b ∈ g ++ gv) → Q H'
    | none => False) → t o i v H Q
theorem Beside.grow {r : T} {v : V} {g : List Addr} (k : Beside N F B H fp r v g) (e : Ext F H F' H') : Beside N F' B H' fp r v g := ⟨k.r.grow e.f Same.rfl' e.h, k.nd, fun a ha => ⟨e.stays (k.out a ha).1 (k.r.cells a ha), (k.out a ha).2⟩⟩
/-- an index: solid, or not one's own -/
theorem R.asIx {r : T} {v : V} {g : List Addr} (h : R N F B H r v g) (hf : r.flag ≠ .own) : R N F B H r v [] := by
  have := h.nofp hf
  subst this; exact h
theorem does_setIx {to ti tv : TE} {q : LvE} {a : P} {v : I} {op : T → T → T → Option T} {t : TSet} (hs : SetV N t op) (hop : ∀ x k u, op x k u ≠ none → k.flag ≠ .own) (hv : DoesI N W tv v) (hq : DoesLv N to q) (ha : DoesP N W ti a) :
    DoesS N W ps (tAsg tv (L2.gSub to ti t)) (mSetIx q a v op) := by
  intro F0 B F H env σ fp D s w
  refine hv F0 B F H env σ fp _ s ?_
  have we : mSetIx q a v op env = (match v env with
    | .ok u e1 => (match a e1 with | .ok k => SRes.ofE (storeAt q (fun t => op t k u) e1) | _ => .bad)
    | .exc x e1 => .exc x e1 | .bad => .bad) := rfl
  rw [we] at w
  revert w
  cases v env with
  | bad => exact fun w => w
  | exc x e => exact fun w F1 H1 fp1 d s1 sf kx => w F1 H1 σ fp1 d s1 sf Pin.refl kx
  | ok u e1 =>
    intro w F1 H1 fp1 y gy s1 sf ky
    dsimp only at w
    cases ek : a e1 with
    | bad => rw [ek] at w; exact w.elim
    | exc x => rw [ek] at w; exact w.elim
    | ok k =>
      rw [ek] at w
      refine hq F0 B F1 H1 e1 σ fp1 _ s1 ?_
      have we2 : storeAt q (fun t => op t k u) e1 = (match q e1 with
        | some (i, p) => (match subAt e1 i p with
          | some t => (match t.flag with
            | .own => (match op t k u with | some t' => some (putPath e1 i p t') | none => none)
            | _ => none)
          | none => none)
        | none => none) := rfl
      dsimp only at w
      rw [we2] at w
      cases eq : q e1 with
      | none => rw [eq] at w; exact w.elim
      | some ip =>
        obtain ⟨i, p⟩ := ip
        rw [eq] at w
        dsimp only at w ⊢
        cases es : subAt e1 i p with
        | none => rw [es] at w; exact w.elim
        | some x =>
          rw [es] at w
          dsimp only at w ⊢
          intro F2 H2 o ex f
          have s2 := s1.ext ex
          refine ha F0 B F2 H2 e1 σ fp1 _ s2 ?_
          rw [ek]
          intro F3 H3 iv gi ex3 ki
          have s3 := s2.ext ex3
          have f3 := f.grow ex3.f ex3.h
          have ky3 := (ky.grow ex).grow ex3
          cases hf : x.flag with
          | frz => rw [hf] at w; exact w.elim
          | bor => rw [hf] at w; exact w.elim
          | tmp => rw [hf] at w; exact w.elim
          | own =>
            rw [hf] at w
            dsimp only at w
            cases eo : op x k u with
            | none => rw [eo] at w; exact w.elim
            | some x' =>
              rw [eo] at w
              obtain ⟨g, rt, nd, out, back⟩ := s3.store f3 ky3.nd ky3.out
              refine hs F3 B H3 x o g k iv u y gy _ s3.fh s3.bh rt hf (ki.r.asIx (hop x k u (by rw [eo]; exact fun z => nomatch z))) ky3.r nd out ?_
              rw [eo]
              intro H4 g' keep ho r4 nd4 sub4
              obtain ⟨fp4, s4⟩ := back H4 g' x' keep ho r4 nd4 sub4
              exact w F3 H4 σ fp4 s4 (sf.trans (ex.f.trans ex3.f)) Pin.refl
theorem does_setF {to tv : TE} {q : LvE} {c n : Nat} {v : I} (hC : Cls N.K (N.cls c)) (hn : NoAttr N.K (N.cls c) (N.att n)) (inj : ∀ a b, N.att a = N.att b → a = b) (hv : DoesI N W tv v) (hq : DoesLv N to q) :
    DoesS N W ps (sFld N.K to tv (N.att n)) (mFld q c n v) := by
  intro F0 B F H env σ fp D s w
  refine hv F0 B F H env σ fp _ s ?_
  have we : mFld q c n v env = (match v env with
    | .ok u e1 => SRes.ofE (storeAt q (setF c n u) e1)
    | .exc x e1 => .exc x e1 | .bad => .bad) := rfl
  rw [we] at w
  revert w
  cases v env with
  | bad => exact fun w => w
  | exc x e => exact fun w F1 H1 fp1 d s1 sf kx => w F1 H1 σ fp1 d s1 sf Pin.refl kx
  | ok u e1 =>
    intro w F1 H1 fp1 y gy s1 sf ky
    dsimp only at w
    refine hq F0 B F1 H1 e1 σ fp1 _ s1 ?_
    have we2 : storeAt q (setF c n u) e1 = (match q e1 with
      | some (i, p) => (match subAt e1 i p with
        | some t => (match t.flag with
          | .own => (match setF c n u t with | some t' => some (putPath e1 i p t') | none => none)
          | _ => none)
        | none => none)
      | none => none) := rfl
    rw [we2] at w
    cases eq : q e1 with
    | none => rw [eq] at w; exact w.elim
    | some ip =>
      obtain ⟨i, p⟩ := ip
      rw [eq] at w
      dsimp only at w ⊢
      cases es : subAt e1 i p with
      | none => rw [es] at w; exact w.elim
      | some x =>
        rw [es] at w
        dsimp only at w ⊢
        intro F2 H2 o ex f
        have s2 := s1.ext ex
        have ky2 := ky.grow ex
        cases x with
        | ins xf c' ns ts =>
          cases xf with
          | own =>
            have we3 : setF c n u (.ins .own c' ns ts) = if c' = c ∧ ns.length < 1000 ∧ u.solid = true then some (.ins .own c' (fldPut ns ts n u).1 (fldPut ns ts n u).2) else none := rfl
            dsimp only [T.flag] at w
            rw [we3] at w
            by_cases hc : c' = c ∧ ns.length < 1000 ∧ u.solid = true
            · rw [if_pos hc] at w
              obtain ⟨rfl, hl, su⟩ := hc
              obtain ⟨g, rt, nd, out, back⟩ := s2.store f ky2.nd ky2.out
              obtain ⟨a, dx, vs, rfl, l, g0, rfl, h1, h0, so, hR⟩ := rt
              obtain ⟨n1, n2, n3⟩ := List.nodup_append.mp nd
              obtain ⟨na, n4⟩ := List.nodup_cons.mp n1
              obtain ⟨nx, n5⟩ := List.nodup_cons.mp n4
              have nay : a ∉ gy := fun z => n3 a (List.mem_cons_self ..) a z rfl
              have ndx : a ≠ dx := fun z => na (by rw [z]; exact List.mem_cons_self ..)
              have nag : a ∉ g0 := fun z => na (List.mem_cons_of_mem _ z)
              have hlen : (fldsOf N ns vs).length < 1000 := by unfold fldsOf; rw [List.length_zip, List.length_map, ← hR.len, ← l]; omega
              refine ⟨a, _, dx, _, rfl, h1, hC, hn, hlen, ?_⟩
              -- the fields afterwards
              have key : ∀ {ns : List Nat} {ts : List T} {vs : List V} {g0 : List Addr} {gy : List Addr}, ns.length = ts.length → Rs N F2 B H2 ts vs g0 → ts.all T.solid = true → (g0 ++ gy).Nodup → R N F2 B H2 u y gy →
                  ∃ vs' g', fldsOf N (fldPut ns ts n u).1 vs' = putF (N.att n) y (fldsOf N ns vs) ∧ (fldPut ns ts n u).1.length = (fldPut ns ts n u).2.length ∧ Rs N F2 B H2 (fldPut ns ts n u).2 vs' g' ∧ (fldPut ns ts n u).2.all T.solid = true ∧ g'.Nodup ∧ ∀ b ∈ g', b ∈ g0 ++ gy := by
                intro ns
                induction ns with
                | nil =>
                  intro ts vs g0 gy l hR so nd ry
                  cases ts with
                  | cons _ _ => cases l
                  | nil =>
                    obtain ⟨rfl, rfl⟩ := hR
                    exact ⟨[y], gy, rfl, rfl, Rs.single ry, by show ([u].all T.solid) = true; simp [su], nd, fun b hb => hb⟩
                | cons m ns ih =>
                  intro ts vs g0 gy l hR so nd ry
                  cases ts with
                  | nil => cases l
                  | cons t ts =>
                    obtain ⟨v1, vs1, g1, g2, rfl, rfl, r1, r2⟩ := hR
                    have wp : fldPut (m :: ns) (t :: ts) n u = if m = n then (m :: ns, u :: ts) else (m :: (fldPut ns ts n u).1, t :: (fldPut ns ts n u).2) := rfl
                    have wf : fldsOf N (m :: ns) (v1 :: vs1) = (N.att m, v1) :: fldsOf N ns vs1 := rfl
                    rw [List.all_cons, Bool.and_eq_true] at so
                    rw [wf, show putF (N.att n) y ((N.att m, v1) :: fldsOf N ns vs1) = if N.att m = N.att n then (N.att m, y) :: fldsOf N ns vs1 else (N.att m, v1) :: putF (N.att n) y (fldsOf N ns vs1) from rfl]
                    obtain ⟨q1, q2, q3⟩ := List.nodup_append.mp nd
                    obtain ⟨q4, q5, q6⟩ := List.nodup_append.mp q1
                    by_cases e : m = n
                    · rw [wp, if_pos e, if_pos (by rw [e])]
                      refine ⟨y :: vs1, gy ++ g2, rfl, l, ⟨y, vs1, gy, g2, rfl, rfl, ry, r2⟩, by rw [List.all_cons, su, so.2]; rfl, ?_, fun b hb => ?_⟩
                      · exact List.nodup_append.mpr ⟨q2, q5, fun x hx z hz e => q3 z (List.mem_append_right _ hz) x hx e.symm⟩
                      · rcases List.mem_append.mp hb with z | z
                        · exact List.mem_append_right _ z
                        · exact List.mem_append_left _ (List.mem_append_right _ z)
                    · rw [wp, if_neg e, if_neg (fun z => e (inj _ _ z))]
                      obtain ⟨vs', g', e1, e2, e3, e4, e5, e6⟩ := ih (by simpa using l) r2 so.2 (List.nodup_append.mpr ⟨q5, q2, fun x hx z hz => q3 x (List.mem_append_right _ hx) z hz⟩) ry
                      refine ⟨v1 :: vs', g1 ++ g', by rw [← e1]; rfl, by simpa using e2, ⟨v1, vs', g1, g', rfl, rfl, r1, e3⟩, by rw [List.all_cons, so.1, e4]; rfl, ?_, fun b hb => ?_⟩
                      · refine List.nodup_append.mpr ⟨q4, e5, fun x hx z hz e => ?_⟩
                        subst e
                        rcases List.mem_append.mp (e6 x hz) with q | q
                        · exact q6 x hx x q rfl
                        · exact q3 x (List.mem_append_left _ hx) x q rfl
                      · rcases List.mem_append.mp hb with z | z
                        · exact List.mem_append_left _ (List.mem_append_left _ z)
                        · rcases List.mem_append.mp (e6 b z) with q | q
                          · exact List.mem_append_left _ (List.mem_append_right _ q)
                          · exact List.mem_append_right _ q
              obtain ⟨vs', g', e1, e2, e3, e4, e5, e6⟩ := key l hR so (List.nodup_append.mpr ⟨n5, n2, fun x hx z hz => n3 x (List.mem_cons_of_mem _ (List.mem_cons_of_mem _ hx)) z hz⟩) ky2.r
              have nag' : a ∉ g' := fun z => (List.mem_append.mp (e6 a z)).elim nag nay
              have ndx' : dx ∉ g' := fun z => (List.mem_append.mp (e6 dx z)).elim nx fun q => n3 dx (List.mem_cons_of_mem _ (List.mem_cons_self ..)) dx q rfl
              obtain ⟨fp4, s4⟩ := back (upd H2 a (.ins (N.cls c') dx (putF (N.att n) y (fldsOf N ns vs)))) (a :: dx :: g') (.ins .own c' (fldPut ns ts n u).1 (fldPut ns ts n u).2) (fun b hb => upd_ne (fun z => hb (by rw [z]; exact List.mem_cons_self ..))) rfl
                ⟨a, dx, vs', rfl, e2, g', rfl, by rw [e1]; exact upd_same, by rw [upd_ne (fun z => ndx z.symm)]; exact h0, e4, e3.past e4 nag'⟩
                (List.nodup_cons.mpr ⟨fun z => (List.mem_cons.mp z).elim ndx nag', List.nodup_cons.mpr ⟨ndx', e5⟩⟩)
                (fun b hb => by
                  rcases List.mem_cons.mp hb with z | z
                  · exact List.mem_append_left _ (by rw [z]; exact List.mem_cons_self ..)
                  · rcases List.mem_cons.mp z with z | z
                    · exact List.mem_append_left _ (by rw [z]; exact List.mem_cons_of_mem _ (List.mem_cons_self ..))
                    · rcases List.mem_append.mp (e6 b z) with q | q
                      · exact List.mem_append_left _ (List.mem_cons_of_mem _ (List.mem_cons_of_mem _ q))
                      · exact List.mem_append_right _ q)
              exact w F2 _ σ fp4 s4 (sf.trans ex.f) Pin.refl
            · rw [if_neg hc] at w; exact w.elim
          | _ => exact w.elim
        | _ => revert w; simp only [setF]; split <;> first | exact fun w => w.elim | (split at * <;> simp_all [SRes.ofE, WantsS])
end
end Cd

set_option Elab.async false
set_option linter.all false
set_option maxRecDepth 100000
/-! Chains, displays, dicts' get, slices, where a thing stands, methods, new instances. -/
namespace Cd
open PySem L2
section
variable {N : Nm} {W : WX} {ps : List Nat} {F B H F' B' H' F1 H1 F2 H2 F0 : Hp} {env : Env} {σ σ1 σ2 : St} {fp : List Addr}
theorem Wants.test {WR' : WR} {r a b : PRes} {Q Q' : VK} (w : Wants N WR' F B H (r.test a b) Q) (ht : ∀ F1 H1, Ext F H F1 H1 → r = .ok (.bl true) → Wants N WR' F1 B H1 a Q → Q' (.bl true) H1) (hf : ∀ F1 H1, Ext F H F1 H1 → r = .ok (.bl false) → Wants N WR' F1 B H1 b Q → Q' (.bl false) H1) : Wants N WR' F B H r Q' := by
  revert w ht hf
  cases r with
  | bad => exact fun w _ _ => w
  | exc x => exact fun w _ _ => w
  | ok x =>
    cases x with
    | bl c =>
      cases c with
      | true => exact fun w ht hf F' H' v g e k => by rw [k.r.1]; exact ht F' H' e rfl (Wants.after w e)
      | false => exact fun w ht hf F' H' v g e k => by rw [k.r.1]; exact hf F' H' e rfl (Wants.after w e)
    | _ => exact fun w _ _ => w.elim
theorem does_chain {r r' : R2} {g g' : T → T → PRes} {ta tb tc : TE} {p q u : P} (hv : ∀ W, V2 N W r g) (hv' : ∀ W, V2 N W r' g') (hp : DoesP N W ta p) (hq : DoesP N W tb q) (hu : DoesP N W tc u) : DoesP N W (tChain r r' ta tb tc) (pChain g g' p q u) := by
  intro F0 B F H env σ fp Q s w
  refine hp.bind s w fun F1 H1 x v gx s1 e1 k1 w1 => ?_
  refine hq.bind s1 w1 fun F2 H2 y z gy s2 e2 k2 w2 => ?_
  refine hv _ F2 B H2 x y v z gx gy _ s2.fh s2.bh (k1.r.grow e2.f Same.rfl' e2.h) k2.r (w2.test (fun F3 H3 e3 _ w3 => ⟨true, rfl, ?_⟩) (fun F3 H3 e3 _ w3 => ⟨false, rfl, ?_⟩))
  · rw [if_pos rfl]
    refine hu.bind (s2.ext e3) w3 fun F4 H4 t w' gt s4 e4 k4 w4 => ?_
    exact hv' _ F4 B H4 y t z w' gy gt Q s4.fh s4.bh ((k2.r.grow e3.f Same.rfl' e3.h).grow e4.f Same.rfl' e4.h) k4.r w4
  · rw [if_neg (by decide)]
    exact w3.nowB e3.fh
/-! ### displays -/
theorem free_F {a : Addr} (sf : Same F H) (h : H a = none) : F a = none := none_of_not fun z => by
  cases q : F a with
  | none => exact z q
  | some o => rw [sf a o q] at h; cases h
theorem same_upd {a : Addr} {o : HO} (h : H a = none) : Same H (upd H a o) := fun b x q => by rw [upd_ne (fun z => by rw [z, h] at q; cases q)]; exact q
theorem newO {WR' : WR} {ts : List T} {vs : List V} {g : List Addr} {Q : VK} (e : Ext F H F1 H1) (so : ts.all T.solid = true) (hl : ts.length ≤ sizeLine) (hR : Rs N F1 B H1 ts vs g) (nd : g.Nodup) (new : ∀ a ∈ g, H a = none ∧ F1 a = none) (w : Wants N WR' F B H (.ok (.lst .own ts)) Q) : ∀ l, H1 l = none → Q (.ref l) (upd H1 l (.lst vs)) := by
  intro l hn
  have lg : l ∉ g := fun z => (hR.cells l z) hn
  refine w F1 (upd H1 l (.lst vs)) (.ref l) (l :: g) ⟨e.f, e.h.trans (same_upd hn), e.fh.trans (same_upd hn), e.new⟩ ⟨⟨l, vs, rfl, hl, g, rfl, upd_same, so, hR.past so lg⟩, List.nodup_cons.mpr ⟨lg, nd⟩, fun a ha => ?_⟩
  rcases List.mem_cons.mp ha with z | z
  · rw [z]; exact ⟨e.h.free hn, free_F e.fh hn⟩
  · exact new a z
theorem does_lst {t : TA} {a : A} (ha : DoesA N W t a) : DoesP N W (tLst t) (pA dLst a) := by
  intro F0 B F H env σ fp Q s w
  refine ha F0 B F H env σ fp _ s ?_
  have we : pA dLst a env = (a env).bind dLst := rfl
  rw [we] at w
  cases e : a env with
  | bad => rw [e] at w; exact w
  | exc x => rw [e] at w; exact w
  | ok ts =>
    rw [e] at w
    intro F1 H1 vs g e1 k1 nd new
    have we2 : dLst ts = if ts.all T.solid && decide (ts.length ≤ lineN) then .ok (.lst .own ts) else .bad := rfl
    rw [show (LRes.ok ts).bind dLst = dLst ts from rfl, we2] at w
    by_cases c : (ts.all T.solid && decide (ts.length ≤ lineN)) = true
    · rw [if_pos c] at w
      rw [Bool.and_eq_true] at c
      have cl : ts.length ≤ sizeLine := of_decide_eq_true c.2
      exact ⟨by rw [← k1.len]; exact cl, newO e1 c.1 cl k1 nd new w⟩
    · rw [if_neg c] at w; exact w.elim
theorem does_tup {t : TA} {a : A} (ha : DoesA N W t a) : DoesP N W (tTup t) (pA dTup a) := by
  intro F0 B F H env σ fp Q s w
  refine ha F0 B F H env σ fp _ s ?_
  have we : pA dTup a env = (a env).bind dTup := rfl
  rw [we] at w
  cases e : a env with
  | bad => rw [e] at w; exact w
  | exc x => rw [e] at w; exact w
  | ok ts =>
    rw [e] at w
    intro F1 H1 vs g e1 k1 nd new
    have we2 : dTup ts = if ts.all T.solid && decide (ts.length ≤ lineN) then .ok (.tup .frz (ts.map fun t => t.fl1 fun _ => .frz)) else .bad := rfl
    rw [show (LRes.ok ts).bind dTup = dTup ts from rfl, we2] at w
    by_cases c : (ts.all T.solid && decide (ts.length ≤ lineN)) = true
    · rw [if_pos c] at w
      rw [Bool.and_eq_true] at c
      have cl : ts.length ≤ sizeLine := of_decide_eq_true c.2
      refine ⟨by rw [← k1.len]; exact cl, fun l hn => ?_⟩
      have lg : l ∉ g := fun z => (k1.cells l z) hn
      let M := frzH F1 (upd H1 l (.tup vs)) (l :: g)
      have sF : Same F1 M := fun a o q => by
        by_cases hg : a ∈ l :: g
        · rcases List.mem_cons.mp hg with z | z
          · rw [z, free_F e1.fh hn] at q; cases q
          · rw [(new a z).2] at q; cases q
        · show frzH _ _ _ a = _
          rw [frzH_out hg]; exact q
      have sM : Same M (upd H1 l (.tup vs)) := fun a o q => by
        by_cases hg : a ∈ l :: g
        · rw [show M a = upd H1 l (.tup vs) a from frzH_in hg] at q; exact q
        · rw [show M a = F1 a from frzH_out hg] at q; exact same_upd hn a o (e1.fh a o q)
      refine w M (upd H1 l (.tup vs)) (.ref l) [] ⟨e1.f.trans sF, e1.h.trans (same_upd hn), sM, fun a q => ?_⟩ ⟨⟨l, vs, rfl, by rw [List.length_map]; exact cl, rfl, ?_, [], ?_⟩, List.nodup_nil, fun _ z => nomatch z⟩
      · by_cases hg : a ∈ l :: g
        · rcases List.mem_cons.mp hg with z | z
          · rw [z]; exact .inr (e1.h.free hn)
          · exact .inr (new a z).1
        · rw [show M a = F1 a from frzH_out hg] at q; exact e1.new a q
      · rw [show M l = upd H1 l (.tup vs) l from frzH_in (List.mem_cons_self ..)]; exact upd_same
      · refine Rs.map (fun t v fp r => r.asF _ _) (Rs.move (M := M) sF (fun b hb o q => ?_) c.1 k1)
        rw [show M b = upd H1 l (.tup vs) b from frzH_in (List.mem_cons_of_mem _ hb), upd_ne (fun z => lg (by rw [← z]; exact hb))]; exact q
    · rw [if_neg c] at w; exact w.elim
theorem does_dnewK : DoesP N W tDNewK pDK := fun F0 B F H env σ fp Q s w l hn => w F _ (.ref l) [l] ⟨Same.rfl', same_upd hn, s.fh.trans (same_upd hn), fun a h => .inl h⟩ ⟨⟨l, [], rfl, rfl, [], rfl, upd_same, rfl, rfl, rfl⟩, by simp, fun a ha => by
  rw [List.mem_singleton] at ha; subst ha; exact ⟨hn, free_F s.fh hn⟩⟩
theorem does_dnewT : DoesP N W tDNewT pDT := fun F0 B F H env σ fp Q s w l hn => w F _ (.ref l) [l] ⟨Same.rfl', same_upd hn, s.fh.trans (same_upd hn), fun a h => .inl h⟩ ⟨⟨l, [], rfl, rfl, [], rfl, upd_same, rfl, rfl, rfl⟩, by simp, fun a ha => by
  rw [List.mem_singleton] at ha; subst ha; exact ⟨hn, free_F s.fh hn⟩⟩
/-! ### get -/
theorem R.isD {x : T} {v : V} {g : List Addr} (sf : Same F H) (sb : Same B H) (h : R N F B H x v g) (hd : isDic x = true) : ∃ a, v = .ref a ∧ IsD H a := by
  cases x with
  | dK f ks ts => obtain ⟨a, vs, rfl, l, hA, hR⟩ := h.dictK sf sb; exact ⟨a, rfl, .inl ⟨_, .inl hA⟩⟩
  | dT f ks ts => obtain ⟨a, vs, rfl, l, hA, hR⟩ := h.dictT sf sb; exact ⟨a, rfl, .inr ⟨_, .inl hA⟩⟩
  | _ => cases hd
theorem does_get1 {td ty : TE} {p q : P} (hp : DoesP N W td p) (hq : DoesP N W ty q) : DoesP N W (tDGet1 td ty) (pGet1 p q) := by
  intro F0 B F H env σ fp Q s w
  refine hp.bind s w fun F1 H1 x v gx s1 e1 k1 w1 => ?_
  by_cases c : isDic x = true
  · rw [if_pos c] at w1
    obtain ⟨a, rfl, hd⟩ := k1.r.isD s1.fh s1.bh c
    refine ⟨a, rfl, hd, hq.bind s1 w1 fun F2 H2 y u gy s2 e2 k2 w2 => ?_⟩
    unfold gGet1 at w2
    cases e : getD? x y with
    | none => rw [e] at w2; exact w2.elim
    | some o =>
      rw [e] at w2
      obtain ⟨b, r, eb, g, _, hr⟩ := getD_ok s2.fh s2.bh (k1.r.grow e2.f Same.rfl' e2.h) k2.r e
      cases eb
      refine ⟨r, g, ?_⟩
      cases o with
      | none => rw [show r = none from hr]; exact w2.now (r := .non) (v := .non) s2.fh ⟨rfl, rfl⟩
      | some t => obtain ⟨z, rfl, rz⟩ := hr; exact w2.now s2.fh rz
  · rw [if_neg c] at w1; exact w1.elim
theorem does_get2 {td ty tx : TE} {p q r : P} (hp : DoesP N W td p) (hq : DoesP N W ty q) (hr : DoesP N W tx r) : DoesP N W (tDGet2 td ty tx) (pGet2 p q r) := by
  intro F0 B F H env σ fp Q s w
  refine hp.bind s w fun F1 H1 x v gx s1 e1 k1 w1 => ?_
  by_cases c : isDic x = true
  · rw [if_pos c] at w1
    obtain ⟨a, rfl, hd⟩ := k1.r.isD s1.fh s1.bh c
    refine ⟨a, rfl, hd, hq.bind s1 w1 fun F2 H2 y u gy s2 e2 k2 w2 => hr.bind s2 w2 fun F3 H3 z u3 gz s3 e3 k3 w3 => ?_⟩
    unfold gGet2 at w3
    cases e : getD? x y with
    | none => rw [e] at w3; exact w3.elim
    | some o =>
      rw [e] at w3
      obtain ⟨b, r, eb, g, _, hr⟩ := getD_ok s3.fh s3.bh ((k1.r.grow e2.f Same.rfl' e2.h).grow e3.f Same.rfl' e3.h) (k2.r.grow e3.f Same.rfl' e3.h) e
      cases eb
      refine ⟨r, g, ?_⟩
      cases o with
      | none =>
        rw [show r = none from hr]
        by_cases st : z.still = true
        · dsimp only at w3
          rw [if_pos st] at w3
          have : R N F3 B H3 z u3 [] := still_stay st Same.rfl' k3.r
          exact w3.now s3.fh this
        · dsimp only at w3
          rw [if_neg st] at w3; exact w3.elim
      | some t => obtain ⟨z, rfl, rz⟩ := hr; exact w3.now s3.fh rz
  · rw [if_neg c] at w1; exact w1.elim
/-! ### slices -/
def DoesO (N : Nm) (t : TO) (o : Po) : Prop := ∀ F0 B F H env σ fp Q, Sim N F0 B F H env σ fp → (match o env with | some l => ∀ F' H', Ext F H F' H' → Q l H' | none => False) → t σ H Q
theorem does_poN : DoesO N tNoPart poN := fun F0 B F H env σ fp Q s w => w F H (Ext.refl s.fh)
theorem does_poS {te : TE} {p : P} (hp : DoesP N (fun _ _ _ _ => False) te p) : DoesO N (tPart te) (poS p) := by
  intro F0 B F H env σ fp Q s w
  refine hp F0 B F H env σ fp _ s ?_
  have we : poS p env = (match p env with | .ok (.int i) => some (some i) | _ => none) := rfl
  rw [we] at w
  revert w
  cases p env with
  | bad => exact fun w => w
  | exc x => exact fun w => w.elim
  | ok t =>
    cases t with
    | int i => exact fun w F' H' v g e k => ⟨i, k.r.1, w F' H' e⟩
    | _ => exact fun w => w.elim
theorem cut_eq (n d : Nat) (o : Option Int) : cut n d o = HT.sIx n d o := by cases o <;> rfl
theorem Rs.cut0 {ts : List T} {vs : List V} {lo hi : Option Int} (h : Rs N F B H ts vs []) : Rs N F B H (cutL ts lo hi) (cutV vs lo hi) [] := by
  have hd : ∀ (n : Nat) {ts : List T} {vs : List V}, Rs N F B H ts vs [] → Rs N F B H (ts.drop n) (vs.drop n) [] := by
    intro n
    induction n with
    | zero => exact fun h => h
    | succ n ih =>
      intro ts vs h
      cases ts with
      | nil => obtain ⟨rfl, _⟩ := h; exact ⟨rfl, rfl⟩
      | cons t ts =>
        obtain ⟨v, vs', g1, g2, rfl, e2, h1, h2⟩ := h
        obtain ⟨rfl, rfl⟩ := List.append_eq_nil_iff.mp e2.symm
        exact ih h2
  have ht : ∀ (n : Nat) {ts : List T} {vs : List V}, Rs N F B H ts vs [] → Rs N F B H (ts.take n) (vs.take n) [] := by
    intro n
    induction n with
    | zero => exact fun h => ⟨rfl, rfl⟩
    | succ n ih =>
      intro ts vs h
      cases ts with
      | nil => obtain ⟨rfl, _⟩ := h; exact ⟨rfl, rfl⟩
      | cons t ts =>
        obtain ⟨v, vs', g1, g2, rfl, e2, h1, h2⟩ := h
        obtain ⟨rfl, rfl⟩ := List.append_eq_nil_iff.mp e2.symm
        exact ⟨v, _, [], [], rfl, rfl, h1, ih h2⟩
  unfold cutL cutV
  rw [← h.len, cut_eq, cut_eq]
  exact ht _ (hd _ h)
theorem cutL_len {ts : List T} {lo hi : Option Int} : (cutL ts lo hi).length ≤ ts.length := by unfold cutL; rw [List.length_take, List.length_drop]; omega
theorem cutL_all {ts : List T} {lo hi : Option Int} {p : T → Bool} (h : ts.all p = true) : (cutL ts lo hi).all p = true := by
  unfold cutL
  rw [List.all_eq_true] at h ⊢
  exact fun x hx => h x (List.mem_of_mem_drop (List.mem_of_mem_take hx))
theorem solid_shal0 {ts : List T} (h : ts.all (shal 0) = true) : ts.all T.solid = true := by
  rw [List.all_eq_true] at h ⊢
  intro x hx
  have := h x hx
  cases x <;> first | rfl | cases this
theorem of_shal0 {ts : List T} {f : Fl} (h : ts.all (shal 0) = true) : ts.map (T.of f) = ts := by
  rw [List.all_eq_true] at h
  conv => rhs; rw [← List.map_id ts]
  refine List.map_congr_left fun x hx => ?_
  have := h x hx
  cases x <;> first | rfl | cases this
theorem v_cut {WR' : WR} {lo hi : Option Int} {x : T} {v : V} {gx : List Addr} {Q : VK} (sf : Same F H) (sb : Same B H) (r : R N F B H x v gx) (w : Wants N WR' F B H (gCut lo hi x) Q) : rSlL N.K v lo hi H Q := by
  cases x with
  | lst f ts =>
    obtain ⟨a, ws, rfl, l, h1, h2⟩ := r.list sf sb
    have we : gCut lo hi (.lst f ts) = if (ts.map (T.of f)).all T.solid then .ok (.lst .own (cutL (ts.map (T.of f)) lo hi)) else .bad := rfl
    rw [we] at w
    by_cases c : (ts.map (T.of f)).all T.solid = true
    · rw [if_pos c] at w
      exact ⟨a, ws, rfl, SqL.of h1, w.newL sf (cutL_all c) (by have := cutL_len (ts := ts.map (T.of f)) (lo := lo) (hi := hi); rw [List.length_map] at this; omega) h2.cut0⟩
    · rw [if_neg c] at w; exact w.elim
  | kon l ts =>
    cases l with
    | true =>
      obtain ⟨a, vs, rfl, n, _, h1, h2⟩ := r.kon sf
      have we : gCut lo hi (.kon true ts) = if ts.all (shal 0) then .ok (.lst .own (cutL ts lo hi)) else .bad := rfl
      rw [we] at w
      by_cases c : ts.all (shal 0) = true
      · rw [if_pos c] at w
        rw [of_shal0 c] at h2
        exact ⟨a, vs, rfl, h1 rfl, w.newL sf (cutL_all (solid_shal0 c)) (Nat.le_trans cutL_len n) h2.cut0⟩
      · rw [if_neg c] at w; exact w.elim
    | false => exact w.elim
  | _ => exact w.elim
theorem does_cut {te : TE} {tl th : TO} {p : P} {lo hi : Po} (hp : DoesP N W te p) (hl : DoesO N tl lo) (hh : DoesO N th hi) : DoesP N W (tSl (rSlL N.K) te tl th) (pCut p lo hi) := by
  intro F0 B F H env σ fp Q s w
  refine hp F0 B F H env σ fp _ s ?_
  have we : pCut p lo hi env = (match p env with
    | .ok t => (match lo env, hi env with | some l, some h => gCut l h t | _, _ => .bad)
    | .exc x => .exc x | .bad => .bad) := rfl
  rw [we] at w
  revert w
  cases p env with
  | bad => exact fun w => w
  | exc x => exact fun w => w
  | ok t =>
    intro w F1 H1 v g e1 k1
    have s1 := s.ext e1
    dsimp only at w
    cases el : lo env with
    | none => rw [el] at w; exact w.elim
    | some l =>
      rw [el] at w
      cases eh : hi env with
      | none => rw [eh] at w; exact w.elim
      | some h =>
        rw [eh] at w
        dsimp only at w
        refine hl F0 B F1 H1 env σ fp _ s1 ?_
        rw [el]
        intro F2 H2 e2
        refine hh F0 B F2 H2 env σ fp _ (s1.ext e2) ?_
        rw [eh]
        intro F3 H3 e3
        have s3 := (s1.ext e2).ext e3
        exact v_cut s3.fh s3.bh ((k1.r.grow e2.f Same.rfl' e2.h).grow e3.f Same.rfl' e3.h) (((Wants.after w e1).after e2).after e3)
/-! ### where a thing stands -/
def VM (N : Nm) (W : WR) (r : V → List V → Hp → VK → Prop) (g : T → List T → PRes) : Prop := ∀ F B H x v gx xs vs gs Q, Same F H → Same B H → R N F B H x v gx → Rs N F B H xs vs gs → Wants N W F B H (g x xs) Q → r v vs H Q
theorem does_mth {ty : String} {r : V → List V → Hp → VK → Prop} {g : T → List T → PRes} {te : TE} {ta : TA} {p : P} {a : A} (hv : ∀ W, VM N W r g) (hty : ∀ F B H x v gx xs, Same F H → Same B H → R N F B H x v gx → g x xs ≠ .bad → tyV N.K ty v H) (hp : DoesP N W te p) (ha : DoesA N W ta a) : DoesP N W (tBM N.K ty r te ta) (pMth g p a) := by
  intro F0 B F H env σ fp Q s w
  refine hp F0 B F H env σ fp _ s ?_
  have we : pMth g p a env = (match p env with
    | .ok t => (match a env with | .ok ts => g t ts | _ => .bad)
    | .exc x => .exc x | .bad => .bad) := rfl
  rw [we] at w
  revert w
  cases p env with
  | bad => exact fun w => w
  | exc x => exact fun w => w
  | ok t =>
    intro w F1 H1 v gx e1 k1
    dsimp only at w
    cases ea : a env with
    | bad => rw [ea] at w; exact w.elim
    | exc x => rw [ea] at w; exact w.elim
    | ok ts =>
      rw [ea] at w
      dsimp only at w
      have s1 := s.ext e1
      refine ⟨hty F1 B H1 t v gx ts s1.fh s1.bh k1.r fun z => by rw [z] at w; exact w, ha F0 B F1 H1 env σ fp _ s1 ?_⟩
      rw [ea]
      intro F2 H2 vs g2 e2 k2 _ _
      exact hv _ F2 B H2 t v gx ts vs g2 Q e2.fh (s1.bh.trans e2.h) (k1.r.grow e2.f Same.rfl' e2.h) k2 ((Wants.after w e1).after e2)
theorem findIdx_spec {x : T} (sx : shal 19 x = true) : ∀ {ts : List T} {j : Nat}, ts.all (shal 19) = true → ts.findIdx? (fun t => eqB t x) = some j →
    ∃ z, (toDs ts)[j]? = some z ∧ PyData.eqv z (toD x) = true ∧ ∀ (m : Nat) (z' : PyData), m < j → (toDs ts)[m]? = some z' → PyData.eqv z' (toD x) = false
  | [], j, _, h => by cases h
  | t :: ts, j, hs, h => by
    rw [List.all_cons, Bool.and_eq_true] at hs
    have we : toDs (t :: ts) = toD t :: toDs ts := rfl
    rw [List.findIdx?_cons] at h
    rw [we]
    by_cases c : eqB t x = true
    · rw [if_pos c] at h
      cases h
      exact ⟨toD t, rfl, by rw [eqv_toD 19 t x hs.1 sx]; exact c, fun m z' hm _ => absurd hm (Nat.not_lt_zero m)⟩
    · rw [if_neg c] at h
      obtain ⟨i, e, rfl⟩ := Option.map_eq_some_iff.mp h
      obtain ⟨z, h1, h2, h3⟩ := findIdx_spec sx hs.2 e
      refine ⟨z, h1, h2, fun m z' hm hz => ?_⟩
      cases m with
      | zero => cases hz; rw [eqv_toD 19 t x hs.1 sx]; simpa using c
      | succ m => exact h3 m z' (by omega) hz
theorem v_index {WR' : WR} : VM N WR' (rIndexD N.K) gIndex := by
  intro F B H x v gx xs vs gs Q sf sb rx rxs w
  cases x with
  | lst f ts =>
    match xs with
    | [] => exact w.elim
    | _ :: _ :: _ => exact w.elim
    | [u] =>
      have we : gIndex (.lst f ts) [u] = if shal 19 u && ts.all (shal 19) then (match ts.findIdx? (fun t => eqB t u) with | some j => .ok (.int j) | none => .bad) else .bad := rfl
      rw [we] at w
      by_cases c : (shal 19 u && ts.all (shal 19)) = true
      · rw [if_pos c] at w
        rw [Bool.and_eq_true] at c
        cases ej : ts.findIdx? (fun t => eqB t u) with
        | none => rw [ej] at w; exact w.elim
        | some j =>
          rw [ej] at w
          obtain ⟨y, rfl, ry⟩ := rxs.one
          have hy : shal 20 (.lst f ts) = true := c.2
          have hx := rx
          obtain ⟨a, ws, rfl, _, h1, h2⟩ := rx.list sf sb
          obtain ⟨z, z1, z2, z3⟩ := findIdx_spec c.1 c.2 ej
          exact ⟨a, y, toD u, toDs ts, j, z, rfl, rfl, hx.dp 20 _ _ _ _ _ _ sf sb hy, ry.dp 19 _ _ _ _ _ _ sf sb c.1, hx.shaped (k := 20) (by decide) sf sb hy, ry.shaped (by decide) sf sb c.1, z1, z2, z3, w.nowI sf⟩
      · rw [if_neg c] at w; exact w.elim
  | _ => exact w.elim
theorem ty_index (F B H : Hp) (x : T) (v : V) (gx : List Addr) (xs : List T) (sf : Same F H) (sb : Same B H) (r : R N F B H x v gx) (h : gIndex x xs ≠ .bad) : tyV N.K "list" v H := by
  cases x with
  | lst f ts => obtain ⟨a, ws, rfl, _, h1, h2⟩ := r.list sf sb; exact .inl ⟨rfl, ws, SqL.of h1⟩
  | _ => exact absurd rfl h
/-! ### methods -/
def tConsI (C : Addr) (m : Str) (ta : TE) (tr : TA) : TA := fun σ H Q => ta σ H fun x H1 => ∃ a dx fs, x = .ref a ∧ H1 a = some (.ins C dx fs) ∧ fs.lookup m = none ∧ tr σ H1 fun vs H2 => Q (x :: vs) H2
theorem flds_none {m : Nat} (inj : ∀ a b, N.att a = N.att b → a = b) : ∀ {ns : List Nat} {vs : List V}, ns.contains m = false → (fldsOf N ns vs).lookup (N.att m) = none
  | [], vs, _ => rfl
  | n :: ns, [], _ => rfl
  | n :: ns, v :: vs, h => by
    rw [List.contains_cons, Bool.or_eq_false_iff] at h
    have ne : (N.att m == N.att n) = false := beq_eq_false_iff_ne.mpr fun z => by
      have := inj _ _ z
      rw [this] at h
      simp at h
    show List.lookup (N.att m) ((N.att n, v) :: fldsOf N ns vs) = none
    simp only [List.lookup, ne]
    exact flds_none inj h.2
theorem R.isIns {c m : Nat} {t : T} {v : V} {g : List Addr} (inj : ∀ a b, N.att a = N.att b → a = b) (sf : Same F H) (sb : Same B H) (h : R N F B H t v g) (hi : isIns c m t = true) :
    ∃ a dx fs, v = .ref a ∧ H a = some (.ins (N.cls c) dx fs) ∧ fs.lookup (N.att m) = none := by
  cases t with
  | ins f c' ns ts =>
    have hi' : (decide (c' = c) && !ns.contains m) = true := hi
    rw [Bool.and_eq_true] at hi'
    have ec : c' = c := of_decide_eq_true hi'.1
    subst ec
    obtain ⟨a, dx, vs, rfl, h1⟩ := h.inst sf sb
    exact ⟨a, dx, _, rfl, h1.1, flds_none inj (by simpa using hi'.2)⟩
  | _ => cases hi
theorem does_aConsI {c m : Nat} {ta : TE} {tr : TA} {p : P} {q : A} (inj : ∀ a b, N.att a = N.att b → a = b) (hp : DoesP N W ta p) (hq : DoesA N W tr q) : DoesA N W (tConsI (N.cls c) (N.att m) ta tr) (aConsI c m p q) := by
  intro F0 B F H env σ fp Q s w
  by_cases ci : isInsP c m (p env) = true
  · have we0 : aConsI c m p q env = aCons p q env := if_pos ci
    rw [we0] at w
    refine hp F0 B F H env σ fp _ s ?_
    have we : aCons p q env = (match p env with
      | .ok t => (match q env with | .ok ts => .ok (t :: ts) | .exc x => .exc x | .bad => .bad)
      | .exc x => .exc x | .bad => .bad) := rfl
    rw [we] at w
    cases e : p env with
    | bad => rw [e] at w; exact w
    | exc x => rw [e] at w; exact w
    | ok x =>
      rw [e] at w ci
      intro F1 H1 v gx e1 k1
      obtain ⟨a, dx, fs, rfl, ea, el⟩ := k1.r.isIns inj e1.fh (s.bh.trans e1.h) ci
      refine ⟨a, dx, fs, rfl, ea, el, hq F0 B F1 H1 env σ fp _ (s.ext e1) ?_⟩
      cases e' : q env with
      | bad => rw [e'] at w; exact w
      | exc x => rw [e'] at w; exact fun F' H' d e2 k => w F' H' d (e1.trans e2) k
      | ok xs =>
        rw [e'] at w
        intro F2 H2 vs gs e2 k2 nd new
        have nx : ∀ b ∈ gx, H1 b ≠ none := k1.r.cells
        refine w F2 H2 (.ref a :: vs) (gx ++ gs) (e1.trans e2) ⟨_, vs, gx, gs, rfl, rfl, k1.r.grow e2.f Same.rfl' e2.h, k2⟩ (List.nodup_append.mpr ⟨k1.nd, nd, fun a ha b hb z => ?_⟩) fun a ha => ?_
        · subst z; exact nx a ha (new a hb).1
        · rcases List.mem_append.mp ha with ha | ha
          · exact ⟨(k1.new a ha).1, e2.stays (k1.new a ha).2 (nx a ha)⟩
          · exact ⟨e1.h.free (new a ha).1, (new a ha).2⟩
  · have we0 : aConsI c m p q env = .bad := if_neg ci
    rw [we0] at w; exact w.elim
theorem does_iMethO {c m n i : Nat} {io : List Nat} {f : List T → FRes} {tr : TA} {as : List Ar} (inj : ∀ a b, N.att a = N.att b → a = b) (hm : ∀ ts, f ts ≠ .bad → ts.length = n) (hr : DoesV N W tr as) :
    DoesI N W (tCallS (spD N n io f) (WE W) (tConsI (N.cls c) (N.att m) (tVar i) tr)) (iMeth c m (pVar i) f io (.own i :: as)) := by
  intro F0 B F H env σ fp Q s w
  by_cases ci : isInsP c m (pVar i env) = true
  · have we0 : iMeth c m (pVar i) f io (.own i :: as) env = iCall f io (.own i :: as) env := if_pos ci
    rw [we0] at w
    refine does_iCallC hm s (fun Q ho w => ?_) w
    obtain ⟨v, ev⟩ := ho i (List.mem_cons_self ..)
    have fact : ∃ a dx fs, v = .ref a ∧ H a = some (.ins (N.cls c) dx fs) ∧ fs.lookup (N.att m) = none := by
      unfold pVar at ci
      cases e : env[i]? with
      | none => rw [e] at ci; cases ci
      | some o =>
        cases o with
        | none => rw [e] at ci; cases ci
        | some t =>
          rw [e] at ci
          obtain ⟨v', g, e1, _, r, _⟩ := s.sl.get e
          rw [ev] at e1
          cases e1
          exact (r.view s.bh).isIns inj s.fh s.bh ci
    obtain ⟨a, dx, fs, rfl, ea, el⟩ := fact
    refine ⟨.ref a, ev, a, dx, fs, rfl, ea, el, hr F0 B F H env σ fp _ s (fun i hi => ho i (List.mem_cons_of_mem _ hi)) ?_⟩
    have we : iVals (.own i :: as) env = (match iVals as env with | .ok ts e2 => .ok (none :: ts) e2 | .exc x e2 => .exc x e2 | .bad => .bad) := rfl
    rw [we] at w
    revert w
    cases iVals as env with
    | bad => exact fun w => w
    | exc x e => exact fun w => w
    | ok ts e2 => exact fun w F2 H2 fp2 vs s2 sf2 m => w F2 H2 fp2 (.ref a :: vs) s2 sf2 ⟨_, vs, rfl, ev, m⟩
  · have we0 : iMeth c m (pVar i) f io (.own i :: as) env = .bad := if_neg ci
    rw [we0] at w; exact w.elim
theorem does_iMethV {c m n : Nat} {io : List Nat} {f : List T → FRes} {ta : TE} {tr : TA} {p : P} {as : List Ar} (inj : ∀ a b, N.att a = N.att b → a = b) (hm : ∀ ts, f ts ≠ .bad → ts.length = n) (hp : DoesP N W ta p) (hr : DoesV N W tr as) :
    DoesI N W (tCallS (spD N n io f) (WE W) (tConsI (N.cls c) (N.att m) ta tr)) (iMeth c m p f io (.val (iP p) :: as)) := by
  intro F0 B F H env σ fp Q s w
  by_cases ci : isInsP c m (p env) = true
  · have we0 : iMeth c m p f io (.val (iP p) :: as) env = iCall f io (.val (iP p) :: as) env := if_pos ci
    rw [we0] at w
    refine does_iCallC hm s (fun Q ho w => ?_) w
    refine does_iP hp F0 B F H env σ fp _ s ?_
    have we : iVals (.val (iP p) :: as) env = (match iP p env with
      | .ok t e1 => if t.still then (match iVals as e1 with | .ok ts e2 => .ok (some t :: ts) e2 | .exc x e2 => .exc x e2 | .bad => .bad) else .bad
      | .exc x e1 => .exc x e1
      | .bad => .bad) := rfl
    rw [we] at w
    have wp : iP p env = (match p env with | .ok t => .ok t env | .exc x => .exc x env | .bad => .bad) := rfl
    rw [wp] at w ⊢
    cases e : p env with
    | bad => rw [e] at ci; cases ci
    | exc x => rw [e] at ci; cases ci
    | ok t =>
      rw [e] at w ci
      dsimp only at w ⊢
      intro F1 H1 fp1 v g s1 sf k
      by_cases so : t.still = true
      · rw [if_pos so] at w
        obtain ⟨a, dx, fs, rfl, ea, el⟩ := k.r.isIns inj s1.fh s1.bh ci
        refine ⟨a, dx, fs, rfl, ea, el, hr F0 B F1 H1 env σ fp1 _ s1 (fun i hi => ho i (List.mem_cons_of_mem _ hi)) ?_⟩
        revert w
        cases iVals as env with
        | bad => exact fun w => w
        | exc x e => exact fun w F2 H2 fp2 d s2 sf2 kx => w F2 H2 fp2 d s2 (sf.trans sf2) kx
        | ok ts e2 => exact fun w F2 H2 fp2 vs s2 sf2 m => w F2 H2 fp2 (.ref a :: vs) s2 (sf.trans sf2) ⟨_, vs, rfl, so, still_stay so sf2 k.r, m⟩
      · rw [if_neg so] at w; exact w.elim
  · have we0 : iMeth c m p f io (.val (iP p) :: as) env = .bad := if_neg ci
    rw [we0] at w; exact w.elim
/-! ### new instances -/
def tMakeS (C : Addr) (sp : Sp) (E : St → XK) (t : TA) : TE := fun σ H Q => t σ H fun vs H1 => ∀ x dx, H1 x = none → H1 dx = none → dx ≠ x →
  sp (.ref x :: vs) (upd (upd H1 dx (.own x)) x (.ins C dx [])) (fun v H2 => v = .non ∧ Q (.ref x) H2) (E σ)
theorem does_make {c n : Nat} {m : List T → FRes} {t : TA} {a : A} (hm : ∀ ts, m ts ≠ .bad → ts.length = n) (ha : DoesA N W t a) : DoesP N W (tMakeS (N.cls c) (spD N n [0] m) (WE W) t) (pA (pMake c m) a) := by
  intro F0 B F H env σ fp Q s w
  refine ha F0 B F H env σ fp _ s ?_
  have we : pA (pMake c m) a env = (a env).bind (pMake c m) := rfl
  rw [we] at w
  cases e : a env with
  | bad => rw [e] at w; exact w
  | exc x => rw [e] at w; exact w
  | ok xs =>
    rw [e] at w
    intro F1 H1 vs g e1 k1 _ _ x dx hx hd ne
    have sb1 : Same B H1 := s.bh.trans e1.h
    have we2 : pMake c m xs = (match m (.ins .own c [] [] :: xs.map T.lend) with
      | .ret .non [o] => (match o.flag with | .own => .ok o | _ => .bad)
      | .exc x [_] => .exc x
      | _ => .bad) := rfl
    rw [show (LRes.ok xs).bind (pMake c m) = pMake c m xs from rfl, we2] at w
    have w := Wants.after w e1
    have nb : m (.ins .own c [] [] :: xs.map T.lend) ≠ .bad := fun z => by rw [z] at w; exact w
    have hd' : upd H1 dx (.own x) x = none := by rw [upd_ne (fun z => ne z.symm)]; exact hx
    have s2 : Same H1 (upd (upd H1 dx (.own x)) x (.ins (N.cls c) dx [])) := (same_upd hd).trans (same_upd hd')
    have hL : Rs N F1 H1 (upd (upd H1 dx (.own x)) x (.ins (N.cls c) dx [])) (xs.map T.lend) vs [] := Rs.map (fun t v fp r => r.lend sb1) k1
    have hI : R N F1 H1 (upd (upd H1 dx (.own x)) x (.ins (N.cls c) dx [])) (.ins .own c [] []) (.ref x) [x, dx] := ⟨x, dx, [], rfl, rfl, [], rfl, upd_same, by rw [upd_ne ne]; exact upd_same, rfl, rfl, rfl⟩
    have hR : Rs N F1 H1 (upd (upd H1 dx (.own x)) x (.ins (N.cls c) dx [])) (.ins .own c [] [] :: xs.map T.lend) (.ref x :: vs) [x, dx] := ⟨_, _, [x, dx], [], rfl, by simp, hI, hL⟩
    refine ⟨hR.len.symm.trans (hm _ nb), F1, H1, _, [x, dx], e1.fh.trans s2, s2, hR, ?_, ?_, ?_, ?_⟩
    · rw [List.all_cons, List.all_map]
      rw [show T.nt (.ins .own c [] []) = true from rfl, Bool.true_and]
      exact List.all_eq_true.mpr fun t _ => T.lend_nt t
    · simp [ne.symm]
    · intro a ha
      rcases List.mem_cons.mp ha with z | z
      · rw [z]; exact ⟨free_F e1.fh hx, hx⟩
      · rw [List.mem_singleton.mp z]; exact ⟨free_F e1.fh hd, hd⟩
    · revert w
      cases m (.ins .own c [] [] :: xs.map T.lend) with
      | bad => exact fun w => w
      | exc y os =>
        match os with
        | [] => exact fun w => w.elim
        | _ :: _ :: _ => exact fun w => w.elim
        | [o] => exact fun w F' H' fo d sf fh bh fr hRo ho out nfo kx => w F' H' d ⟨sf, bh, fh, fr⟩ kx
      | ret r os =>
        cases r with
        | non =>
          match os with
          | [] => exact fun w => w.elim
          | _ :: _ :: _ => exact fun w => w.elim
          | [o] =>
            intro w F' H' fo v g' sf fh bh fr hRo ho out k
            dsimp only at w
            have fo' : o.flag = .own := by simpa using ho
            rw [fo'] at w
            obtain ⟨n1, n2, n3⟩ := List.nodup_append.mp k.nd
            obtain ⟨y, e1', ry⟩ := hRo.one
            cases e1'
            exact ⟨k.r.1, w F' H' (.ref x) fo ⟨sf, bh, fh, fr⟩ ⟨R.move Same.rfl' (fun _ _ _ q => q) (T.solid_iff.mpr (.inl fo')) ry, n1, fun a ha => ⟨(out a ha).2, (out a ha).1⟩⟩⟩
        | _ => exact fun w => w.elim
end
end Cd

set_option Elab.async false
set_option linter.all false
set_option maxRecDepth 100000
/-! Stores by index and key; what is raised. -/
namespace Cd
open PySem L2
section
variable {N : Nm} {W : WX} {ps : List Nat} {F B H F' B' H' F1 H1 F2 H2 F0 : Hp} {env : Env} {σ σ1 σ2 : St} {fp : List Addr}
theorem set_all {ts : List T} {j : Nat} {u : T} (so : ts.all T.solid = true) (su : u.solid = true) : (ts.set j u).all T.solid = true := by
  rw [List.all_eq_true] at so ⊢
  intro x hx
  rcases List.mem_or_eq_of_mem_set hx with z | z
  · exact so x z
  · rw [z]; exact su
theorem Rs.setAt {u : T} {y : V} {gy : List Addr} (ry : R N F B H u y gy) : ∀ {ts : List T} {vs : List V} {g : List Addr} {j : Nat}, Rs N F B H ts vs g → (g ++ gy).Nodup → j < ts.length →
    ∃ g', Rs N F B H (ts.set j u) (vs.set j y) g' ∧ g'.Nodup ∧ ∀ b ∈ g', b ∈ g ++ gy
  | [], _, _, _, _, _, h => absurd h (Nat.not_lt_zero _)
  | t :: ts, _, _, 0, h, nd, _ => by
    obtain ⟨v, vs', g1, g2, rfl, rfl, h1, h2⟩ := h
    obtain ⟨q1, q2, q3⟩ := List.nodup_append.mp nd
    obtain ⟨q4, q5, q6⟩ := List.nodup_append.mp q1
    refine ⟨gy ++ g2, ⟨y, vs', gy, g2, rfl, rfl, ry, h2⟩, List.nodup_append.mpr ⟨q2, q5, fun x hx z hz e => q3 z (List.mem_append_right _ hz) x hx e.symm⟩, fun b hb => ?_⟩
    rcases List.mem_append.mp hb with z | z
    · exact List.mem_append_right _ z
    · exact List.mem_append_left _ (List.mem_append_right _ z)
  | t :: ts, _, _, j + 1, h, nd, l => by
    obtain ⟨v, vs', g1, g2, rfl, rfl, h1, h2⟩ := h
    obtain ⟨q1, q2, q3⟩ := List.nodup_append.mp nd
    obtain ⟨q4, q5, q6⟩ := List.nodup_append.mp q1
    obtain ⟨g', r, n, sub⟩ := Rs.setAt ry (j := j) h2 (List.nodup_append.mpr ⟨q5, q2, fun x hx z hz => q3 x (List.mem_append_right _ hx) z hz⟩) (by simpa using l)
    refine ⟨g1 ++ g', ⟨v, _, g1, g', rfl, rfl, h1, r⟩, List.nodup_append.mpr ⟨q4, n, fun x hx z hz e => ?_⟩, fun b hb => ?_⟩
    · subst e
      rcases List.mem_append.mp (sub x hz) with q | q
      · exact q6 x hx x q rfl
      · exact q3 x (List.mem_append_left _ hx) x q rfl
    · rcases List.mem_append.mp hb with z | z
      · exact List.mem_append_left _ (List.mem_append_left _ z)
      · rcases List.mem_append.mp (sub b z) with q | q
        · exact List.mem_append_left _ (List.mem_append_right _ q)
        · exact List.mem_append_right _ q
theorem fz_solid {u : T} (h : u.fz = true) : u.solid = true := by
  unfold T.fz at h
  exact T.solid_iff.mpr (.inr (by revert h; cases u.flag <;> simp))
theorem fz_nofp {u : T} {v : V} {g : List Addr} (h : u.fz = true) (r : R N F B H u v g) : g = [] := r.nofp (by
  unfold T.fz at h; intro z; rw [z] at h; cases h)
/-- a table's store -/
theorem putD_ok {κ κ' : Type} [DecidableEq κ] [DecidableEq κ'] {f : κ → κ'} (inj : ∀ a b, f a = f b → a = b) {ks : List κ} {ts : List T} {vs : List V} {g : List Addr} {k : κ} {u : T} {y : V} (l : ks.length = ts.length) (so : ts.all T.solid = true) (hR : Rs N F B H ts vs g) (fu : u.fz = true) (ry : R N F B H u y []) :
    ∃ vs' g', ((putD ks ts k u).1.map f).zip vs' = putK ((ks.map f).zip vs) (f k) y ∧ Rs N F B H (putD ks ts k u).2 vs' g' ∧ g'.Sublist g ∧ (putD ks ts k u).1.length = (putD ks ts k u).2.length ∧ (putD ks ts k u).2.all T.solid = true := by
  have hany : ∀ {ks : List κ} {vs : List V}, ks.length = vs.length → (((ks.map f).zip vs).any fun kv => decide (kv.1 = f k)) = ks.any fun x => decide (x = k) := by
    intro ks
    induction ks with
    | nil => intro vs _; rfl
    | cons a ks ih =>
      intro vs l
      cases vs with
      | nil => cases l
      | cons v vs =>
        show (decide (f a = f k) || _) = (decide (a = k) || _)
        have := ih (vs := vs) (by simpa using l)
        unfold List.zip at this
        rw [this]
        congr 1
        by_cases e : a = k
        · rw [e]
          simp
        · rw [decide_eq_false e, decide_eq_false fun z => e (inj _ _ z)]
  have lv : ks.length = vs.length := l.trans hR.len
  unfold putD putK
  rw [hany lv]
  by_cases c : (ks.any fun x => decide (x = k)) = true
  · rw [if_pos c, if_pos c]
    clear c hany lv
    induction ks generalizing ts vs g with
    | nil =>
      cases ts with
      | nil => obtain ⟨rfl, rfl⟩ := hR; exact ⟨[], [], rfl, ⟨rfl, rfl⟩, .refl _, rfl, rfl⟩
      | cons _ _ => cases l
    | cons a ks ih =>
      cases ts with
      | nil => cases l
      | cons t ts =>
        obtain ⟨v, vs1, g1, g2, rfl, rfl, h1, h2⟩ := hR
        rw [List.all_cons, Bool.and_eq_true] at so
        obtain ⟨vs', g', e1, e2, e3, e4, e5⟩ := ih (by simpa using l) so.2 h2
        have wd : setD (a :: ks) (t :: ts) k u = (if a = k then u else t) :: setD ks ts k u := rfl
        by_cases e : a = k
        · dsimp only
          rw [wd, if_pos e]
          refine ⟨y :: vs', g', ?_, ⟨y, vs', [], g', rfl, rfl, ry, e2⟩, e3.trans (List.sublist_append_right _ _), by simpa using e4, by rw [List.all_cons, fz_solid fu]; exact e5⟩
          simp only [List.map_cons, List.zip_cons_cons, e, if_true]
          exact congrArg _ e1
        · dsimp only
          rw [wd, if_neg e]
          refine ⟨v :: vs', g1 ++ g', ?_, ⟨v, vs', g1, g', rfl, rfl, h1, e2⟩, List.Sublist.append (List.Sublist.refl _) e3, by simpa using e4, by rw [List.all_cons, so.1]; exact e5⟩
          have ne : ¬ f a = f k := fun z => e (inj _ _ z)
          simp only [List.map_cons, List.zip_cons_cons, if_neg ne]
          exact congrArg _ e1
  · rw [if_neg c, if_neg c]
    refine ⟨vs ++ [y], g ++ [], ?_, hR.append (Rs.single ry), by rw [List.append_nil]; exact List.Sublist.refl _, by simp [l], by rw [all_app, so]; simp [fz_solid fu]⟩
    rw [List.map_append, List.zip_append (by rw [List.length_map]; exact lv)]
    rfl
theorem v_setL : SetV N rSetL setLst := by
  intro F B H x o g k i u v gv Q sf sb rx hf rk ru nd out w
  cases x with
  | lst f ts =>
    cases f with
    | own =>
      cases k with
      | int k =>
        obtain ⟨a, vs, rfl, l, g0, rfl, h1, so, hR⟩ := rx
        have we : setLst (.lst .own ts) (.int k) u = if u.solid then (match ixOf ts.length k with | some j => some (.lst .own (ts.set j u)) | none => none) else none := rfl
        rw [we] at w
        by_cases c : u.solid = true
        · rw [if_pos c] at w
          cases ej : ixOf ts.length k with
          | none => rw [ej] at w; exact w.elim
          | some j =>
            rw [ej] at w
            have hj : j < ts.length := by
              unfold ixOf at ej
              split at ej
              · split at ej
                · cases ej; omega
                · cases ej
              · split at ej
                · cases ej; omega
                · cases ej
            obtain ⟨n1, n2, n3⟩ := List.nodup_append.mp nd
            obtain ⟨na, n4⟩ := List.nodup_cons.mp n1
            have nav : a ∉ gv := fun z => n3 a (List.mem_cons_self ..) a z rfl
            obtain ⟨g', r, n, sub⟩ := Rs.setAt ru (j := j) hR (List.nodup_append.mpr ⟨n4, n2, fun p hp q hq => n3 p (List.mem_cons_of_mem _ hp) q hq⟩) hj
            have na' : a ∉ g' := fun z => (List.mem_append.mp (sub a z)).elim na nav
            refine ⟨a, vs, k, j, rfl, rk.1, h1, by rw [← hR.len]; exact ej, ?_⟩
            refine w _ (a :: g') (fun b hb => upd_ne (fun z => hb (by rw [z]; exact List.mem_cons_self ..))) rfl ⟨a, _, rfl, by rw [List.length_set]; exact l, g', rfl, upd_same, set_all so c, r.past (set_all so c) na'⟩ (List.nodup_cons.mpr ⟨na', n⟩) fun b hb => ?_
            rcases List.mem_cons.mp hb with z | z
            · exact List.mem_append_left _ (by rw [z]; exact List.mem_cons_self ..)
            · rcases List.mem_append.mp (sub b z) with q | q
              · exact List.mem_append_left _ (List.mem_cons_of_mem _ q)
              · exact List.mem_append_right _ q
        · rw [if_neg c] at w; exact w.elim
      | _ => exact w.elim
    | _ => exact w.elim
  | _ => exact w.elim
theorem putD_len {κ : Type} [DecidableEq κ] {ks : List κ} {ts : List T} {k : κ} {u : T} : True := trivial
theorem v_setD : SetV N rSetD setDic := by
  intro F B H x o g k i u v gv Q sf sb rx hf rk ru nd out w
  cases x with
  | dK f ks ts =>
    cases f with
    | own =>
      cases k with
      | int k =>
        obtain ⟨a, vs, rfl, l, g0, rfl, h1, so, hR⟩ := rx
        have we : setDic (.dK .own ks ts) (.int k) u = if u.fz && decide (ts.length < line) then some (.dK .own (putD ks ts k u).1 (putD ks ts k u).2) else none := rfl
        rw [we] at w
        by_cases c : (u.fz && decide (ts.length < line)) = true
        · rw [if_pos c] at w
          rw [Bool.and_eq_true] at c
          have cl : ts.length < sizeLine := of_decide_eq_true c.2
          have gn := fz_nofp c.1 ru
          subst gn
          rw [List.append_nil] at nd
          obtain ⟨na, n4⟩ := List.nodup_cons.mp nd
          obtain ⟨vs', g', e1, e2, e3, e4, e5⟩ := putD_ok (f := (Sum.inl : Int → Key)) (k := k) (fun _ _ z => Sum.inl.inj z) l so hR c.1 ru
          have na' : a ∉ g' := fun z => na (e3.subset z)
          refine ⟨a, upd H a (.dK (putK ((ks.map (Sum.inl : Int → Key)).zip vs) (Sum.inl k) v)), rfl, ?_, ?_⟩
          · rw [rk.1]
            exact DPut.k (k := (Sum.inl k : Key)) h1 (by rw [List.length_zip, List.length_map, ← hR.len, ← l]; omega)
          · rw [← e1]
            refine w _ (a :: g') (fun b hb => upd_ne (fun z => hb (by rw [z]; exact List.mem_cons_self ..))) rfl ⟨a, vs', rfl, e4, g', rfl, upd_same, e5, e2.past e5 na'⟩ (List.nodup_cons.mpr ⟨na', n4.sublist e3⟩) fun b hb => ?_
            rcases List.mem_cons.mp hb with z | z
            · exact List.mem_append_left _ (by rw [z]; exact List.mem_cons_self ..)
            · exact List.mem_append_left _ (List.mem_cons_of_mem _ (e3.subset z))
        · rw [if_neg c] at w; exact w.elim
      | _ => exact w.elim
    | _ => exact w.elim
  | dT f ks ts =>
    cases f with
    | own =>
      cases k with
      | tup fk us =>
        cases fk with
        | frz =>
          obtain ⟨a, vs, rfl, l, g0, rfl, h1, so, hR⟩ := rx
          have we : setDic (.dT .own ks ts) (.tup .frz us) u = (match intsOf us with
            | some k => if u.fz && decide (ts.length < line) then some (.dT .own (putD ks ts k u).1 (putD ks ts k u).2) else none
            | none => none) := rfl
          rw [we] at w
          cases ei : intsOf us with
          | none => rw [ei] at w; exact w.elim
          | some k =>
            rw [ei] at w
            dsimp only at w
            by_cases c : (u.fz && decide (ts.length < line)) = true
            · rw [if_pos c] at w
              rw [Bool.and_eq_true] at c
              have cl : ts.length < sizeLine := of_decide_eq_true c.2
              have gn := fz_nofp c.1 ru
              subst gn
              rw [List.append_nil] at nd
              obtain ⟨na, n4⟩ := List.nodup_cons.mp nd
              obtain ⟨vs', g', e1, e2, e3, e4, e5⟩ := putD_ok (f := (List.map (Sum.inl : Int → Key))) (k := k) (fun _ _ z => map_inl_inj z) l so hR c.1 ru
              have na' : a ∉ g' := fun z => na (e3.subset z)
              obtain ⟨b, ws, rfl, _, _, hb, gk, hRk⟩ := rk
              have ew := intsOf_vals ei hRk
              have hb' : H b = some (.tup ((k.map (Sum.inl : Int → Key)).map kV)) := by
                rw [sf _ _ hb, ew, List.map_map]; rfl
              refine ⟨a, _, rfl, DPut.t h1 hb' (by rw [List.length_zip, List.length_map, ← hR.len, ← l]; omega), ?_⟩
              rw [← e1]
              refine w _ (a :: g') (fun b hb => upd_ne (fun z => hb (by rw [z]; exact List.mem_cons_self ..))) rfl ⟨a, vs', rfl, e4, g', rfl, upd_same, e5, e2.past e5 na'⟩ (List.nodup_cons.mpr ⟨na', n4.sublist e3⟩) fun b hb => ?_
              rcases List.mem_cons.mp hb with z | z
              · exact List.mem_append_left _ (by rw [z]; exact List.mem_cons_self ..)
              · exact List.mem_append_left _ (List.mem_cons_of_mem _ (e3.subset z))
            · rw [if_neg c] at w; exact w.elim
        | _ => exact w.elim
      | _ => exact w.elim
    | _ => exact w.elim
  | _ => exact w.elim
theorem v_setA : SetV N rSetA setAny := by
  intro F B H x o g k i u v gv Q sf sb rx hf rk ru nd out w
  cases x with
  | lst f ts => exact .inl (v_setL F B H _ o g k i u v gv Q sf sb rx hf rk ru nd out w)
  | _ => exact .inr (v_setD F B H _ o g k i u v gv Q sf sb rx hf rk ru nd out w)
theorem setAny_key : ∀ x k u, setAny x k u ≠ none → k.flag ≠ .own := by
  intro x k u h
  cases x with
  | lst f ts =>
    cases f with
    | own => cases k <;> first | exact absurd rfl h | exact fun z => nomatch z
    | _ => exact absurd rfl h
  | dK f ks ts =>
    cases f with
    | own => cases k <;> first | exact absurd rfl h | exact fun z => nomatch z
    | _ => exact absurd rfl h
  | dT f ks ts =>
    cases f with
    | own =>
      cases k with
      | tup fk us =>
        cases fk with
        | frz => exact fun z => nomatch z
        | _ => exact absurd rfl h
      | _ => exact absurd rfl h
    | _ => exact absurd rfl h
  | _ => exact absurd rfl h
/-! ### what is raised -/
theorem does_raise {c : Nat} : DoesS N W ps (fun _ σ H => (fun (_ : St) (H : Hp) (Q : XK) => Q (.ref (N.cls c)) none H) σ H fun cls d H' => W cls d σ H') (mRaise c) := fun F0 B F H env σ fp D s w => w F H σ fp none s Same.rfl' Pin.refl rfl
end
section
variable {X : Cx}
theorem set_any (hu : X.A.units + 1 < cLine) : PSet X rSetA := by
  intro pins s σ H o i v u1 u2 u3 Q I r1 r2 r3 h
  rcases h with h | h
  · exact set_list pins s σ H o i v u1 u2 u3 Q I r1 r2 r3 h
  · exact set_dict hu pins s σ H o i v u1 u2 u3 Q I r1 r2 r3 h
end
end Cd

set_option Elab.async false
set_option linter.all false
set_option maxRecDepth 100000
/-! Comprehensions that change one's own things; a range by twos. -/
namespace Cd
open PySem L2
section
variable {N : Nm} {W : WX} {ps : List Nat} {F B H F' B' H' F1 H1 F2 H2 F0 : Hp} {env : Env} {σ σ1 σ2 : St} {fp : List Addr}
theorem SlsOk.wipeG (i : Nat) : ∀ {e : Env} {σ : St} {fp : List Addr}, SlsOk N F B H e σ fp → ∃ fp', SlsOk N F B H (e.set i none) (σ.set i none) fp' ∧ fp'.Sublist fp
  | [], σ, fp, h => by rw [h.1]; cases i <;> exact ⟨[], ⟨rfl, rfl⟩, List.nil_sublist _⟩
  | s :: e, _, _, h => by
    obtain ⟨x, σ', g1, g2, rfl, rfl, h1, h2⟩ := h
    cases i with
    | zero => exact ⟨g2, ⟨none, σ', [], g2, rfl, rfl, rfl, h2⟩, List.sublist_append_right _ _⟩
    | succ i =>
      obtain ⟨fp', h3, sub⟩ := h2.wipeG i
      exact ⟨g1 ++ fp', ⟨x, σ'.set i none, g1, fp', rfl, rfl, h1, h3⟩, List.Sublist.append (List.Sublist.refl _) sub⟩
theorem SlsOk.wipesG : ∀ (vs : List Nat) {e : Env} {σ : St} {fp : List Addr}, SlsOk N F B H e σ fp → ∃ fp', SlsOk N F B H (wipeE e vs) (L2.wipe σ vs) fp' ∧ fp'.Sublist fp
  | [], _, _, fp, h => ⟨fp, h, List.Sublist.refl _⟩
  | v :: vs, _, _, _, h => by
    obtain ⟨fp1, h1, s1⟩ := SlsOk.wipesG vs h
    obtain ⟨fp2, h2, s2⟩ := h1.wipeG v
    exact ⟨fp2, h2, s2.trans s1⟩
theorem SlsOk.other : ∀ {e : Env} {σa σ : St} {fp : List Addr}, SlsOk N F B H e σa fp → σ.length = σa.length → (∀ (i : Nat) v, σa[i]? = some (some v) → σ[i]? = some (some v)) → SlsOk N F B H e σ fp
  | [], σa, σ, _, h, l, _ => by rw [h.1] at l; exact ⟨List.eq_nil_of_length_eq_zero l, h.2⟩
  | s :: e, _, σ, _, h, l, k => by
    obtain ⟨x, σ', g1, g2, rfl, rfl, h1, h2⟩ := h
    cases σ with
    | nil => cases l
    | cons y σ =>
      refine ⟨y, σ, g1, g2, rfl, rfl, ?_, h2.other (by simpa using l) fun i v e => k (i + 1) v e⟩
      cases s with
      | none => exact h1
      | some t =>
        obtain ⟨v, rfl, nt, r⟩ := h1
        have := k 0 v rfl
        exact ⟨v, by simpa using this, nt, r⟩
theorem SlsOk.merge {F5 B2 H5 H6 : Hp} (sf : Same F F5) {D : Addr} (keep : ∀ a, a ≠ D → ∀ o, H5 a = some o → H6 a = some o) : ∀ {e e2 : Env} {σa σb : St} {fa fb : List Addr}, SlsOk N F B H e σa fa → SlsOk N F5 B2 H5 e2 σb fb → (∀ (i : Nat) v, σa[i]? = some (some v) → σb[i]? = some (some v)) → D ∉ fb →
    ∃ fp', SlsOk N F5 B H6 (mergeE e e2) σa fp' ∧ fp'.Sublist fb
  | [], e2, σa, σb, fa, fb, h, h', k, nd => ⟨[], ⟨h.1, rfl⟩, List.nil_sublist _⟩
  | s :: e, [], _, σb, _, fb, h, h', k, nd => by
    obtain ⟨x, σ', g1, g2, rfl, rfl, h1, h2⟩ := h
    obtain ⟨rfl, rfl⟩ := h'
    obtain ⟨fp', h3, sub⟩ := SlsOk.merge (B2 := B2) (e2 := []) (σb := []) (fb := []) sf keep h2 ⟨rfl, rfl⟩ (fun i v e => by have := k (i + 1) v e; simp at this) (fun z => nomatch z)
    have : mergeE (s :: e) [] = none :: mergeE e [] := by cases s <;> rfl
    rw [this]
    exact ⟨fp', ⟨x, σ', [], fp', rfl, rfl, rfl, h3⟩, sub⟩
  | s :: e, s2 :: e2, _, _, _, _, h, h', k, nd => by
    obtain ⟨x, σ', g1, g2, rfl, rfl, h1, h2⟩ := h
    obtain ⟨y, σ2, f1, f2, rfl, rfl, h3, h4⟩ := h'
    obtain ⟨fp', h5, sub⟩ := SlsOk.merge sf keep h2 h4 (fun i v e => k (i + 1) v e) (fun z => nd (List.mem_append_right _ z))
    cases s with
    | none => exact ⟨fp', ⟨x, σ', [], fp', rfl, rfl, rfl, h5⟩, sub.trans (List.sublist_append_right _ _)⟩
    | some t =>
      obtain ⟨v, rfl, nt, r⟩ := h1
      have ey : y = some v := by have := k 0 v rfl; simpa using this
      subst ey
      have we : mergeE (some t :: e) (s2 :: e2) = (match t.flag with
        | .bor => some t
        | _ => keepU s2) :: mergeE e e2 := rfl
      have other : ∃ g, SlOk N F5 B H6 (keepU s2) (some v) g ∧ g.Sublist f1 := by
        cases s2 with
        | none => exact ⟨[], rfl, List.nil_sublist _⟩
        | some u =>
          rw [show keepU (some u) = if u.solid then some u else none from rfl]
          by_cases so : u.solid = true
          · rw [if_pos so]
            obtain ⟨v', e1, nt', r'⟩ := h3
            cases e1
            exact ⟨f1, ⟨v, rfl, nt', r'.move Same.rfl' (fun a ha o q => keep a (fun z => nd (List.mem_append_left _ (z ▸ ha))) o q) so⟩, List.Sublist.refl _⟩
          · rw [if_neg so]; exact ⟨[], rfl, List.nil_sublist _⟩
      rw [we]
      cases hf : t.flag with
      | bor =>
        have g0 := r.nofp (by rw [hf]; decide)
        subst g0
        exact ⟨fp', ⟨some v, σ', [], fp', rfl, rfl, ⟨v, rfl, nt, r.stay nt sf Same.rfl' fun _ z => nomatch z⟩, h5⟩, sub.trans (List.sublist_append_right _ _)⟩
      | own => obtain ⟨g, q, sg⟩ := other; exact ⟨g ++ fp', ⟨some v, σ', g, fp', rfl, rfl, q, h5⟩, List.Sublist.append sg sub⟩
      | frz => obtain ⟨g, q, sg⟩ := other; exact ⟨g ++ fp', ⟨some v, σ', g, fp', rfl, rfl, q, h5⟩, List.Sublist.append sg sub⟩
      | tmp => exact absurd hf (T.nt_iff.mp nt)
theorem wipe_some' {σ : St} {vs : List Nat} {i : Nat} {v : V} (h : (L2.wipe σ vs)[i]? = some (some v)) : σ[i]? = some (some v) := by
  have := (L2.wipe_some h).2
  rw [← L2.wipe_out this]; exact h
theorem fz_any {u : T} {v : V} {M M' : Hp} (h : u.fz = true) (r : R N F B H u v []) (sf : Same F F') : R N F' M M' u v [] := r.move sf (fun _ z => nomatch z) (fz_solid h)
theorem Rs.any {M M' : Hp} : ∀ {ts : List T} {vs : List V}, ts.all T.fz = true → Rs N F B H ts vs [] → Same F F' → Rs N F' M M' ts vs []
  | [], _, _, h, _ => h
  | t :: ts, _, a, h, sf => by
    obtain ⟨v, vs', g1, g2, rfl, e2, h1, h2⟩ := h
    obtain ⟨rfl, rfl⟩ := List.append_eq_nil_iff.mp e2.symm
    rw [List.all_cons, Bool.and_eq_true] at a
    exact ⟨v, vs', [], [], rfl, rfl, fz_any a.1 h1 sf, h2.any a.2 sf⟩
theorem fz_all {ts : List T} (h : ts.all T.fz = true) : ts.all T.solid = true := by
  rw [List.all_eq_true] at h ⊢
  exact fun x hx => fz_solid (h x hx)
/-- [elt for tg in src], elt changes one's own things -/
theorem does_iLc {wi : TI} {g : TG} {te : TE} {src : A} {tg : Tg} {elt : I} {vs : List Nat} (hw : DoesW N W wi src) (hg : DoesG N [] g tg) (hm : MonoG g) (ho : OnlyG g vs) (he : DoesI N W0 te elt) :
    DoesI N W (tLc wi g tYes te vs) (iLc src tg elt vs) := by
  intro F0 B F H env σ fp Q s w
  refine hw F0 B F H env σ fp _ s ?_
  have we : iLc src tg elt vs env = (match src env with
    | .ok ts => (match iLcGo tg elt ts (wipeE env vs) with | some (us, e') => .ok (.lst .own us) e' | none => .bad)
    | .exc x => .exc x env | .bad => .bad) := rfl
  rw [we] at w
  revert w
  cases es : src env with
  | bad => exact fun w => w
  | exc x => exact fun w F1 H1 d ex kx => w F1 H1 fp d (s.ext ex) ex.f kx
  | ok ts =>
    intro w F1 H1 J e1 wk D hD
    dsimp only at w
    have s1 := s.ext e1
    cases eg : iLcGo tg elt ts (wipeE env vs) with
    | none => rw [eg] at w; exact w.elim
    | some p =>
      obtain ⟨us, ef⟩ := p
      rw [eg] at w
      dsimp only at w
      have hDF : F1 D = none := free_F e1.fh hD
      have hDB : B D = none := s1.bh.free hD
      refine ⟨fun i m H' => ∃ F' ei fpi acc as rest, Sim N F0 B F' H' ei (L2.wipe σ vs) fpi ∧ H' D = some (.lst acc) ∧ F' D = none ∧ D ∉ fpi ∧ Rs N F' F' F' as acc [] ∧ as.all T.fz = true ∧ Same F1 F' ∧ i + m = ts.length ∧ as.length = i ∧ iLcGo tg elt (ts.drop i) ei = some (rest, ef) ∧ us = as ++ rest, ?_, ?_⟩
      · obtain ⟨fp0, h0, sub0⟩ := s1.sl.wipesG vs
        have nD : D ∉ fp0 := fun z => (h0.cells D z) hD
        refine ⟨ts.length, F1, wipeE env vs, fp0, [], [], us, ⟨s1.f0, s1.fh.trans (same_upd hD), s1.bh.trans (same_upd hD), s1.fr, h0.stay Same.rfl' Same.rfl' (fun a ha o q => same_upd hD a o q), s1.nd.sublist sub0, fun a ha => s1.out a (sub0.subset ha)⟩, upd_same, hDF, nD, ⟨rfl, rfl⟩, rfl, Same.rfl', by omega, rfl, eg, rfl⟩
      rintro i m H' ⟨F', ei, fpi, acc, as, rest, S, hA, hDn, nD, hR, az, sf, em, hlen, hgo, hus⟩
      by_cases hi : i < ts.length
      · refine .inr ⟨wk.go F' H' i hi sf S.fh S.bh, fun H2 => ∃ m', m' < m ∧ ∃ F' ei fpi acc as rest, Sim N F0 B F' H2 ei (L2.wipe σ vs) fpi ∧ H2 D = some (.lst acc) ∧ F' D = none ∧ D ∉ fpi ∧ Rs N F' F' F' as acc [] ∧ as.all T.fz = true ∧ Same F1 F' ∧ (i + 1) + m' = ts.length ∧ as.length = i + 1 ∧ iLcGo tg elt (ts.drop (i + 1)) ei = some (rest, ef) ∧ us = as ++ rest,
          fun H2 h => h, fun x H2 y => ?_⟩
        obtain ⟨t, F2, et, ex, r⟩ := wk.yld F' H' i x H2 hi sf S.fh S.bh y
        have ed : ts.drop i = t :: ts.drop (i + 1) := by
          obtain ⟨h1, h2⟩ := List.getElem?_eq_some_iff.mp et
          rw [List.drop_eq_getElem_cons h1, h2]
        rw [ed] at hgo
        have wg : iLcGo tg elt (t :: ts.drop (i + 1)) ei = (match tg.put t ei with
          | none => none
          | some e1 => (match elt e1 with
            | .ok u e2 => if u.fz then (match iLcGo tg elt (ts.drop (i + 1)) (mergeE ei e2) with | some (us, e3) => some (u :: us, e3) | none => none) else none
            | _ => none)) := rfl
        rw [wg] at hgo
        have S1 := S.ext ex
        have hA2 : H2 D = some (.lst acc) := ex.h D _ hA
        have hD2 : F2 D = none := ex.stays hDn (by rw [hA]; simp)
        have sB : Same B (upd B D (.lst acc)) := same_upd hDB
        have hF0 : F0 D = none := free_F (S1.f0) hD2
        -- the list that is made stands still meanwhile
        have S2 : Sim N F0 (upd B D (.lst acc)) F2 H2 ei (L2.wipe σ vs) fpi := by
          refine ⟨S1.f0, S1.fh, fun a o q => ?_, fun a q => ?_, S1.sl.grow Same.rfl' sB Same.rfl', S1.nd, fun a ha => ⟨(S1.out a ha).1, ?_⟩⟩
          · by_cases e : a = D
            · rw [e, upd_same] at q; rw [e, hA2]; exact q
            · rw [upd_ne e] at q; exact S1.bh a o q
          · rcases S1.fr a q with z | z
            · exact .inl z
            · refine .inr ?_
              rw [upd_ne (fun e => by rw [e, hD2] at q; exact q rfl)]; exact z
          · rw [upd_ne (fun e => nD (by rw [← e]; exact ha))]; exact (S1.out a ha).2
        refine hm _ _ _ _ _ ?_ (ho _ _ _ _ (hg F0 (upd B D (.lst acc)) F2 H2 ei (L2.wipe σ vs) fpi t x [] (fun σ2 H3 => H3 = H2 ∧ ∃ env2 fp2, tg.put t ei = some env2 ∧ Sim N F0 (upd B D (.lst acc)) F2 H2 env2 σ2 fp2) S2 ⟨r.grow Same.rfl' sB Same.rfl', by rw [List.append_nil]; exact S2.nd, fun _ z => nomatch z⟩ ?_))
        · rintro σ2 H3 ⟨⟨hl2, on2⟩, rfl, env2, fp2, ep, s2⟩
          refine ⟨(wipe_same hl2 on2).trans wipe_wipe, ?_⟩
          rw [ep] at hgo
          dsimp only at hgo
          unfold tYes
          dsimp only
          rw [if_pos rfl]
          refine he F0 (upd B D (.lst acc)) F2 H3 env2 σ2 fp2 _ s2 ?_
          revert hgo
          generalize elt env2 = re
          intro hgo
          cases re with
          | bad => cases hgo
          | exc x e => cases hgo
          | ok u e2 =>
            dsimp only at hgo
            by_cases hu : u.fz = true
            · rw [if_pos hu] at hgo
              cases eg2 : iLcGo tg elt (ts.drop (i + 1)) (mergeE ei e2) with
              | none => rw [eg2] at hgo; cases hgo
              | some p =>
                obtain ⟨us', e3⟩ := p
                rw [eg2] at hgo
                cases hgo
                intro F5 H5 fp5 y g5 s5 sf5 k5
                have hA5 : H5 D = some (.lst acc) := s5.bh D _ upd_same
                have len5 : acc.length < sizeLine := by
                  have a1 := hR.len
                  have a2 := wk.line
                  omega
                refine ⟨acc, hA5, len5, ?_⟩
                have g0 := fz_nofp hu k5.r
                subst g0
                have D5 : F5 D = none := none_of_not fun q => (s5.fr D q).elim (fun z => z hF0) fun z => by rw [upd_same] at z; cases z
                have nD5 : D ∉ fp5 := fun z => by have := (s5.out D z).2; rw [upd_same] at this; cases this
                have keep : ∀ a, a ≠ D → ∀ o, H5 a = some o → (upd H5 D (.lst (acc ++ [y]))) a = some o := fun a ha o q => by rw [upd_ne ha]; exact q
                have agree : ∀ (j : Nat) v, (L2.wipe σ vs)[j]? = some (some v) → σ2[j]? = some (some v) := fun j v e => by
                  have := (L2.wipe_some e).2
                  rw [on2 j this]; exact e
                obtain ⟨fp6, h6, sub6⟩ := SlsOk.merge (F5 := F5) (H5 := H5) (H6 := upd H5 D (.lst (acc ++ [y]))) (ex.f.trans sf5) keep S.sl s5.sl agree nD5
                refine ⟨m - 1, by omega, F5, mergeE ei e2, fp6, acc ++ [y], as ++ [u], us', ⟨s5.f0, fun a o q => keep a (fun z => by rw [z, D5] at q; cases q) o (s5.fh a o q), fun a o q => keep a (fun z => by rw [z, hDB] at q; cases q) o (s5.bh a o (sB a o q)), fun a q => ?_, h6, s5.nd.sublist sub6, fun a ha => ⟨(s5.out a (sub6.subset ha)).1, sB.free (s5.out a (sub6.subset ha)).2⟩⟩, upd_same, D5, fun z => nD5 (sub6.subset z), ?_, by rw [all_app, az]; simp [hu], sf.trans (ex.f.trans sf5), by omega, by rw [List.length_append, List.length_singleton, hlen], eg2, by rw [hus, List.append_assoc]; rfl⟩
                · rcases s5.fr a q with z | z
                  · exact .inl z
                  · exact .inr (sB.free z)
                · exact Rs.append (g := []) (g' := []) (hR.any az (ex.f.trans sf5)) (Rs.single (fz_any hu k5.r Same.rfl'))
            · rw [if_neg hu] at hgo; cases hgo
        · cases ep : tg.put t ei with
          | none => rw [ep] at hgo; cases hgo
          | some e4 => exact fun σ2 fp2 s2 _ sub => ⟨rfl, e4, fp2, rfl, s2⟩
      · have e : i = ts.length := by omega
        subst e
        rw [List.drop_length] at hgo
        cases hgo
        rw [List.append_nil] at hus
        subst hus
        refine .inl ⟨wk.stop F' H' sf S.fh S.bh, ?_⟩
        refine w F' H' fpi (.ref D) [D] ⟨S.f0, S.fh, S.bh, S.fr, S.sl.other (L2.wipe_length _ _).symm fun i v h => wipe_some' h, S.nd, S.out⟩ (e1.f.trans sf) ⟨⟨D, acc, rfl, by rw [hlen]; exact wk.line, [], rfl, hA, fz_all az, hR.any az Same.rfl'⟩, ?_, fun a ha => ?_⟩
        · exact List.nodup_append.mpr ⟨S.nd, by simp, fun a ha b hb z => nD (by rw [List.mem_singleton] at hb; rw [← hb, ← z]; exact ha)⟩
        · rw [List.mem_singleton] at ha; subst ha; exact ⟨hDn, hDB⟩
/-! ### range(a, b, 2) -/
theorem rng2T_len {lo : Int} {n : Nat} : (rng2T lo n).length = n := by simp [rng2T]
theorem walk_rng2 (lo : Int) (n : Nat) (hn : n ≤ sizeLine) : Walk N B F (Itc lo 2 n) (rng2T lo n) := by
  refine ⟨by rw [rng2T_len]; exact hn, fun _ _ _ _ _ => by rw [rng2T_len]; exact Nat.le_refl _, fun _ _ i h _ _ _ => by rw [rng2T_len] at h; exact h, fun F' H i x H' h s1 s2 s3 y => ?_⟩
  obtain ⟨rfl, rfl⟩ := y
  rw [rng2T_len] at h
  exact ⟨.int (lo + i * 2), F', by simp [rng2T, h], Ext.refl s2, rfl, rfl⟩
theorem rg2 {i j : Int} (ha : -(2 ^ 62) ≤ i) (ha' : i < 2 ^ 62) (hb : -(2 ^ 62) ≤ j) (hb' : j < 2 ^ 62) : RgC i j 2 ((j - i + 1) / 2).toNat := by
  have hs : Builtin.Range.rangeSize i j 2 = (((j - i + 1) / 2).toNat : Int) := by
    unfold Builtin.Range.rangeSize
    rw [if_pos (by decide)]
    split <;> omega
  refine ⟨by decide, by decide, ?_, hs⟩
  unfold Builtin.Range.small
  rw [hs]
  simp only [Builtin.Range.rangeFitsLong, Bool.and_eq_true, Bool.or_eq_true, decide_eq_true_eq, beq_iff_eq]
  refine ⟨by omega, .inr ?_⟩
  rw [if_pos (by decide), Bool.and_eq_true, decide_eq_true_eq, decide_eq_true_eq]
  omega
theorem does_wRngBy2 {ta tb : TE} {p q : P} (hp : DoesP N W ta p) (hq : DoesP N W tb q) : DoesW N W (iRng3 (tCons ta (tCons tb (tCons (tC (.int 2)) tNil)))) (sRngBy2 p q) := by
  intro F0 B F H env σ fp Q s w
  refine hp F0 B F H env σ fp _ s ?_
  have we : sRngBy2 p q env = (match p env with
  | .ok (.int a) => (match q env with
    | .ok (.int b) => if inR a && inR b && inR0 (b - a) then .ok (rng2T a ((b - a + 1) / 2).toNat) else .bad
    | .exc x => .exc x | _ => .bad)
  | .exc x => .exc x | _ => .bad) := rfl
  rw [we] at w
  revert w
  generalize p env = r
  intro w
  cases r with
  | bad => exact w
  | exc x => exact w
  | ok r =>
    cases r with
    | int n =>
      intro F' H' v g ex k
      obtain ⟨rfl, _⟩ := k.r
      dsimp only at w
      refine hq F0 B F' H' env σ fp _ (s.ext ex) ?_
      revert w
      generalize q env = r
      intro w
      cases r with
      | bad => exact w
      | exc x => exact fun F2 H2 d e2 k2 => w F2 H2 d (ex.trans e2) k2
      | ok r =>
        cases r with
        | int m =>
          intro F2 H2 v2 g2 ex2 k2
          obtain ⟨rfl, _⟩ := k2.r
          dsimp only at w
          by_cases c : (inR n && inR m && inR0 (m - n)) = true
          · rw [if_pos c] at w
            rw [Bool.and_eq_true, Bool.and_eq_true] at c
            have b1 := inR_iff.mp c.1.1
            have b2 := inR_iff.mp c.1.2
            have b3 : m - n ≤ 16777216 := of_decide_eq_true c.2
            refine ⟨n, m, 2, _, rfl, rg2 b1.1 b1.2 b2.1 b2.2, w F2 H2 _ (ex.trans ex2) (walk_rng2 n _ ?_)⟩
            have e : sizeLine = 16777216 := by decide
            rw [e]; omega
          · rw [if_neg c] at w; exact w.elim
        | _ => exact w.elim
    | _ => exact w.elim
end
end Cd

set_option Elab.async false
set_option linter.all false
set_option maxRecDepth 100000
/-! sorted(xs, key=o.m): a method gives the keys, whole numbers. -/
namespace Cd
open PySem PySem.Spec PyProof.Rows L2
open PySem.W (KeepsBut copyHeap copyHeap_at copyHeap_old EachIs AllAlike Sortable SortsAt dataKind sortVals dataLe)
def sortBy (xs : List V) (ks : List Int) : List V := ((xs.zip ks).mergeSort fun p q => decide (p.2 ≤ q.2)).map (·.1)
section
variable {X : Cx} {pins : List (Addr × Obj)} {σ : L2.St} {H : Hp} {s : Shared}
theorem repin {a : Addr} {o o' : Obj} {h' : Heap} {t' : Nat} (I : Inv X ((a, o) :: pins) σ H s) (f : ∀ H', H' a = none → FpOk X pins H' a) (k : ∀ b u, b ≠ a → s.heap.get? b = some u → h'.get? b = some u) (ho : h'.get? a = some o') (hc : ∀ v, o'.data ≠ .cell v) :
    Inv X ((a, o') :: pins) σ H { s with heap := h', toks := t' } := by
  have q := I.pin (a, o) (List.mem_append_right _ (List.mem_cons_self ..))
  have I0 : Inv X pins σ H s := I.pins_of fun r hr => I.pin r (List.mem_append_right _ (List.mem_cons_of_mem _ hr))
  have I1 : Inv X pins σ H { s with heap := h', toks := t' } := I0.turnedL (ch := [a]) (fun b u hb e => k b u (by simpa using hb) e) (fun b hb => by rw [List.mem_singleton] at hb; subst hb; exact f H q.2.1)
  refine I1.pins_of fun p hp => ?_
  rcases List.mem_cons.mp hp with e | e
  · subst e
    exact ⟨ho, q.2.1, q.2.2.1, q.2.2.2.1, hc⟩
  · exact I1.pin p (List.mem_append_right _ e)
theorem each_zip {its : List Value} : ∀ {xs : List V} {ks : List Int}, ks.length = xs.length → Vals xs its → EachIs (fun v (p : V × Int) => RelV p.1 v) its (xs.zip ks) := by
  induction its with
  | nil => intro xs ks l h; cases h; exact .nil
  | cons v its ih =>
    intro xs ks l h
    cases h with
    | cons r h =>
      cases ks with
      | nil => cases l
      | cons k ks => exact .cons r (ih (by simpa using l) h)
theorem zip_keys : ∀ {xs : List V} {ks : List Int}, ks.length = xs.length → (xs.zip ks).map (fun p => PyData.int p.2) = ks.map PyData.int
  | [], [], _ => rfl
  | [], _ :: _, h => by cases h
  | _ :: _, [], h => by cases h
  | _ :: xs, _ :: ks, h => congrArg _ (zip_keys (xs := xs) (by simpa using h))
theorem each_vals {out : List Value} : ∀ {ps : List (V × Int)}, EachIs (fun v (p : V × Int) => RelV p.1 v) out ps → Vals (ps.map (·.1)) out := by
  induction out with
  | nil => intro ps h; cases h; exact .nil
  | cons v out ih => intro ps h; cases h with | cons r h => exact .cons r (ih h)
theorem each_reads {h : Heap} {vs : List Value} : ∀ {ks : List Int}, EachIs (fun v n => ∃ t, v = .int n t) vs ks → EachIs (fun v d => ∃ as, Reads h v d as) vs (ks.map PyData.int) := by
  induction vs with
  | nil => intro ks h; cases h; exact .nil
  | cons v vs ih =>
    intro ks h
    cases h with
    | cons r h => obtain ⟨t, rfl⟩ := r; exact .cons ⟨[], .int _ t⟩ (ih h)
theorem sort_len (xs : List V) (ks : List Int) (h : ks.length = xs.length) : (sortBy xs ks).length = xs.length := by
  unfold sortBy
  rw [List.length_map, List.length_mergeSort, List.length_zip]; omega
variable {k : Nat} {a C dx g q p : Addr} {fd : FuncData} {ps : List Str} {sp : Sp} {xs : List V} {ks : List Int}
/-- what the call does -/
theorem sortK_ok {Q : Value → Shared → Prop} (I : Inv X pins σ H s) (hl : SqL X.K H p xs) (em : H q = some (.met g a)) (F : FnOk X.prog X.w X.K X.mg X.base (L2.CX X.prog X.w) k g fd ps sp) (hr : Room (k + 2) X.A)
    (hb : Binds X.K fd ps []) (hk : ks.length = xs.length)
    (turn : ∀ (i : Nat) x n H', xs[i]? = some x → ks[i]? = some n → Same H H' → sp [.ref a, x] H' (fun v H'' => v = .int n ∧ Same H' H'') (fun _ _ _ => False))
    (h : ∀ l H3 s', Same H H3 → H l = none → H3 l = none → Inv X pins σ (upd H3 l (.lst (sortBy xs ks))) s' → Q (.ref l) s') :
    wpAny (model X.prog X.w) X.A (call (.builtin "sorted") [.ref p] [(Str.ofString "key", .ref q)]) Q X.xe s := by
  obtain ⟨its, rv, pl, hz⟩ := I.list hl
  have hA : X.A.frames = some X.stack := I.env0.frames
  have iz : its.length ≤ sizeLine := by rw [← rv.length]; exact hz
  refine PySem.W.sorted_of_sort pl.isList iz (ksk_s1 _ _) (fun _ => ksk_l1 _ _) fun E' => ?_
  rw [ksk_t1]
  -- the copy: a list of ours
  let c : Addr := s.heap.objs.size + 1
  have hc : H c = none := I.hok.fresh (Nat.le_succ _)
  have ho : (copyHeap s.heap its).get? c = some (seqObj "list" its.toArray 0) := copyHeap_at s.heap its
  have I1 : Inv X pins σ (upd H c (.lst xs)) { s with heap := copyHeap s.heap its, toks := s.toks } := I.laid (fun b u e => copyHeap_old e) (Nat.le_succ _) ⟨hz, its, 0, rv, ho⟩
  obtain ⟨e1, ho1⟩ : ∃ e1, ((copyHeap s.heap its).update c (Obj.mapSeq fun _ => (#[] : Array Value))).get? c = some (seqObj "list" #[] e1) := ⟨_, get?_update_seq ho fun _ => #[]⟩
  have I2 := I1.lset (its' := []) (ys := []) (f := fun _ => #[]) (t' := s.toks) upd_same ho rfl .nil (Nat.zero_le _)
  rw [upd_upd] at I2
  unfold ksk_tree
  refine wpAny_bind (listItems_at ho rfl ?_)
  refine wpAny_bind (listUpdate_at ho rfl ?_ (by rw [List.size_toArray]; exact iz) (Nat.zero_le _))
  refine wpAny_bind (seqEpoch_at ho1 rfl ?_)
  refine wpAny_bind (wpAny_newTuple ?_ (by show its.length ≤ _; exact iz))
  refine wpAny_bind (wpAny_newList ?_ (Nat.zero_le _))
  refine wpAny_holding ?_
  let hs : Heap := (((copyHeap s.heap its).update c (Obj.mapSeq fun _ => (#[] : Array Value))).push (seqObj "tuple" its.toArray 0)).push (seqObj "list" #[] 0)
  let kS : Addr := (((copyHeap s.heap its).update c (Obj.mapSeq fun _ => (#[] : Array Value))).push (seqObj "tuple" its.toArray 0)).objs.size
  have hkS : hs.get? kS = some (seqObj "list" #[] 0) := Heap.get?_push_size _ rfl
  have gts : ((copyHeap s.heap its).update c (Obj.mapSeq fun _ => (#[] : Array Value))).objs.size ≤ kS := by
    show _ ≤ (((copyHeap s.heap its).update c (Obj.mapSeq fun _ => (#[] : Array Value))).push (seqObj "tuple" its.toArray 0)).objs.size
    exact Nat.le_of_lt (by simp [Heap.push])
  have kc : kS ≠ c := fun z => Nat.lt_irrefl _ (Nat.lt_of_lt_of_le (Heap.lt_size ho1) (Nat.le_trans gts (Nat.le_of_eq z)))
  have up : ∀ b u, ((copyHeap s.heap its).update c (Obj.mapSeq fun _ => (#[] : Array Value))).get? b = some u → hs.get? b = some u := fun b u e => Heap.get?_push_of_some _ (Heap.get?_push_of_some _ e)
  have I3 : Inv X pins σ (upd H c (.lst [])) { s with heap := hs, toks := s.toks } := I2.kept (t' := s.toks) up
  have fpk : ∀ H', H' kS = none → FpOk X pins H' kS := fun H' hn => I2.fpOk gts hn
  have hck : upd H c (.lst []) kS = none := I2.hok.fresh gts
  have I4 : Inv X ((kS, seqObj "list" #[] 0) :: pins) σ (upd H c (.lst [])) { s with heap := hs, toks := s.toks } := I3.pins_of fun r hr => by
    rcases List.mem_cons.mp hr with e | e
    · subst e
      have f := fpk _ hck
      exact ⟨hkS, hck, f.2.1, f.2.2.1, fun v z => nomatch z⟩
    · exact I3.pin r (List.mem_append_right _ e)
  obtain ⟨od, I5⟩ := I4.lock (d := c) upd_same trivial
  have nof := I4.nofrz (d := c) upd_same trivial
  rw [upd_upd] at I5
  have eod : od = seqObj "list" #[] e1 := by
    have q1 := (I5.hok c _ upd_same).1
    have q2 : hs.get? c = some (seqObj "list" #[] e1) := up _ _ ho1
    rw [show ({ s with heap := hs, toks := s.toks } : Shared).heap = hs from rfl, q2] at q1
    exact (Option.some.inj q1).symm
  have S0 : Same H (upd H c (.frz od (.lst []))) := same_upd hc
  have kl : ks.length = its.length := by rw [hk, rv.length]
  show wpAny (model X.prog X.w) X.A.in1.in1 (ksk_rest c (.ref q) false its.toArray e1 (.ref kS)) _ E' { s with heap := hs }
  unfold ksk_rest
  refine wpAny_bind (wpAny_rule ?_)
  first
    | rw [List.forIn_toArray]
    | (rw [← Array.forIn_toList]; simp only [List.toList_toArray])
    | rw [← Array.forIn_toList]
  refine wpAny_bind (ksk_fold (fun i s' => ∃ Hi kA e, Inv X ((kS, seqObj "list" kA e) :: pins) σ Hi s' ∧ Same (upd H c (.frz od (.lst []))) Hi ∧ EachIs (fun v n => ∃ t, v = .int n t) kA.toList (ks.take i)) its 0 _
    ⟨_, #[], 0, I5, Same.rfl', by rw [List.take_zero]; exact EachIs.nil⟩ ?step ?done)
  case step =>
    rintro j x s' hx ⟨Hi, kA, e, J, sH, hke⟩
    simp only [Nat.zero_add] at hke ⊢
    have hj : j < its.length := (List.getElem?_eq_some_iff.mp hx).1
    obtain ⟨n, hn⟩ : ∃ n, ks[j]? = some n := ⟨_, List.getElem?_eq_getElem (by omega)⟩
    obtain ⟨y, hy⟩ : ∃ y, xs[j]? = some y := ⟨_, List.getElem?_eq_getElem (by rw [← hk]; omega)⟩
    obtain ⟨x', hx', ry⟩ := rv.get hy
    rw [hx] at hx'
    cases hx'
    have D := turn j y n Hi hy hn (S0.trans sH)
    have hz2 : kA.size ≤ its.length := by
      have h1 := hke.length
      rw [Array.length_toList, List.length_take] at h1
      omega
    have r2 : Vals [V.ref a, y] [Value.ref a, x] := .cons rfl (.cons ry .nil)
    have hps : [Value.ref a, x].length = ps.length := by rw [← r2.length]; exact F.len _ _ _ _ D
    have e0 := J.env0
    have e2 : Env0 X.prog X.w X.K X.mg X.base X.A.in1.in1 X.stack s' Hi := ⟨hA, e0.mod, e0.bs, e0.bsz, e0.funs, e0.frf, e0.hok, e0.bare⟩
    have b2 := hb s' [Value.ref a, x] J.kIn (by rw [List.append_nil]; exact hps)
    rw [List.append_nil] at b2
    have call1 : wpAny (model X.prog X.w) X.A.in1.in1 (call (.ref q) [x]) (EP X ((kS, seqObj "list" kA e) :: pins) σ fun v H'' => v = .int n ∧ Same Hi H'') (fun _ _ => False) s' := by
      refine wpAny_call (PySem.W.method_call (J.hok q _ (sH _ _ (S0 _ _ em))) (codeAny_mono (F.run X.A.in1.in1 X.stack s' Hi ⟨[.ref a, x], []⟩ [.ref a, x] [.ref a, y] _ _ hr.in1.in1 e2 b2 r2 D) fun rr s2 hrr => ?_))
      cases rr with
      | error e =>
        obtain ⟨_, _, _, _, _, _, _, _, _, _, _, _, z⟩ := hrr
        exact z.elim
      | ok fl =>
        cases fl with
        | ret u => exact J.after hrr
        | next => exact False.elim hrr
        | brk => exact False.elim hrr
        | cont => exact False.elim hrr
    refine wpAny_bind (wpAny_attempt (wpAny_mono call1 (fun v s'' he => ?_) fun _ _ hF => hF.elim))
    obtain ⟨v', H', J2, rv', ev, sH2⟩ := he
    subst ev
    obtain ⟨t, rfl⟩ := rv'
    dsimp only
    have nk2 : s''.heap.get? kS = some (seqObj "list" kA e) := (J2.pin (kS, _) (List.mem_append_right _ (List.mem_cons_self ..))).1
    obtain ⟨c2, hc2⟩ : ∃ c2, (s''.heap.update kS (Obj.mapSeq (·.push (.int n t)))).get? kS = some (seqObj "list" (kA.push (.int n t)) c2) := ⟨_, get?_update_seq nk2 (·.push (.int n t))⟩
    refine wpAny_bind (listUpdate_at nk2 rfl ?_ (Nat.le_trans hz2 iz) (Nat.le_trans (Nat.le_of_eq (Array.size_push ..)) (Nat.succ_le_succ (Nat.le_trans hz2 iz))))
    refine wpAny_pure ⟨rfl, H', kA.push (.int n t), c2, repin (t' := s''.toks) J2 fpk (fun b u hb eb => (Heap.get?_update_other _ _ (Ne.symm hb)).trans eb) hc2 (fun v z => nomatch z), sH.trans sH2, ?_⟩
    have ek : ks.take (j + 1) = ks.take j ++ [n] := by rw [List.take_add_one, hn]; simp
    have ea : (kA.push (.int n t)).toList = kA.toList ++ [.int n t] := by simp
    rw [ea, ek]
    exact PySem.W.each_snoc (R := fun v n => ∃ t, v = Value.int n t) ⟨t, rfl⟩ hke
  case done =>
    rintro s' ⟨Hi, kA, e, J, sH, hke⟩
    have hke' : EachIs (fun v n => ∃ t, v = .int n t) kA.toList ks := by
      have e3 : ks.take (0 + its.length) = ks := List.take_of_length_le (by omega)
      rw [e3] at hke
      exact hke
    have hsz : kA.size = its.length := by
      have h1 := hke'.length
      rw [Array.length_toList] at h1
      omega
    have nk : s'.heap.get? kS = some (seqObj "list" kA e) := (J.pin (kS, _) (List.mem_append_right _ (List.mem_cons_self ..))).1
    have hHc : Hi c = some (.frz od (.lst [])) := sH _ _ upd_same
    have na : s'.heap.get? c = some (seqObj "list" #[] e1) := by
      have := (J.hok c _ hHc).1
      rw [eod] at this
      exact this
    refine wpAny_bind (listItems_at nk rfl ?_)
    obtain ⟨G, g1, g2⟩ := L2.restrict s'.heap (fun b => decide (b ≠ kS))
    have hal : AllAlike ((xs.zip ks).map fun p => PyData.int p.2) := AllAlike.of fun _ _ => by simp [PySem.W.alike]
    have hre := each_reads (h := s'.heap) hke'
    rw [← zip_keys hk] at hre
    refine PySem.W.keyH_end (κ := dataKind s'.heap ((xs.zip ks).map fun p => PyData.int p.2)) (h₁ := G) (fun b o _ eb => ?_) (g2 kS (by simp)) nk na kc
      (SortsAt.data (s := s') hre hal (Sortable.others fun _ => ⟨(fun z => nomatch z), fun _ z => nomatch z⟩) (fun d hd => ?_)) hsz iz fun h' tk c3 k3 n3 => ⟨rfl, ?_⟩
    · by_cases z : b = kS
      · rw [z, g2 kS (by simp)] at eb; cases eb
      · rw [g1 b (by simp [z])] at eb; exact eb
    · obtain ⟨b, _, rfl⟩ := List.mem_map.mp hd
      have := hr.un
      show X.A.in1.in1.units + (PyData.int b.2).depth < cLine
      have hd0 : (PyData.int b.2).depth = 0 := by simp [PyData.depth]
      rw [hd0]
      show X.A.units + 1 + 1 + 0 < cLine
      omega
    · have eo : EachIs (fun v (p : V × Int) => RelV p.1 v) (sortVals (dataKind s'.heap ((xs.zip ks).map fun p => PyData.int p.2)) false kA.toList its) ((xs.zip ks).mergeSort (dataLe false fun p => PyData.int p.2)) :=
        PySem.W.keyedOut_each (fun p : V × Int => PyData.int p.2) ⟨s'.heap, kA.toList, hal, rfl, hre⟩ (each_zip hk rv)
      rw [PySem.W.dataLe_int (fun p : V × Int => p.2)] at eo
      have vo := each_vals eo
      have vo : Vals (sortBy xs ks) (sortVals (dataKind s'.heap ((xs.zip ks).map fun p => PyData.int p.2)) false kA.toList its) := vo
      generalize sortVals (dataKind s'.heap ((xs.zip ks).map fun p => PyData.int p.2)) false kA.toList its = out at *
      -- first the list's own object, then the keys' one
      have J1 := J.unlock hHc nof
      have hm1 : (s'.heap.update c fun _ => seqObj "list" out.toArray c3).get? c = some (seqObj "list" out.toArray c3) := Heap.get?_update_self _ na rfl
      have hm2 : ∀ b, b ≠ c → (s'.heap.update c fun _ => seqObj "list" out.toArray c3).get? b = s'.heap.get? b := fun b hb => Heap.get?_update_other _ _ (Ne.symm hb)
      have J2 : Inv X ((kS, seqObj "list" kA e) :: pins) σ (upd (upd Hi c (.lst [])) c (.lst (sortBy xs ks))) { s' with heap := s'.heap.update c fun _ => seqObj "list" out.toArray c3, toks := tk } :=
        J1.write (x := c) (e := c) (by rw [upd_same]; trivial) (.inl rfl) (fun b u hb eb => (hm2 b hb).trans eb) ⟨_, hm1⟩ ⟨by rw [sort_len _ _ hk]; exact hz, out, c3, vo, hm1⟩
      rw [upd_upd] at J2
      have J3 : Inv X pins σ (upd Hi c (.lst (sortBy xs ks))) { s' with heap := s'.heap.update c fun _ => seqObj "list" out.toArray c3, toks := tk } := J2.pins_of fun r hr => J2.pin r (List.mem_append_right _ (List.mem_cons_of_mem _ hr))
      have hkn := (J2.pin (kS, _) (List.mem_append_right _ (List.mem_cons_self ..))).2.1
      have J4 : Inv X pins σ (upd Hi c (.lst (sortBy xs ks))) { s' with heap := h', toks := tk } := Inv.turnedL (s := { s' with heap := s'.heap.update c fun _ => seqObj "list" out.toArray c3, toks := tk }) (t' := tk) (ch := [kS]) J3 (fun b u hb eb => by
        have hb' : b ≠ kS := by simpa using hb
        by_cases z : b = c
        · rw [z] at eb ⊢
          rw [show ({ s' with heap := s'.heap.update c fun _ => seqObj "list" out.toArray c3, toks := tk } : Shared).heap = s'.heap.update c fun _ => seqObj "list" out.toArray c3 from rfl, hm1] at eb
          rw [← Option.some.inj eb]; exact n3
        · refine k3 b u z ?_
          rw [g1 b (by simp [hb'])]
          exact (hm2 b z).symm.trans eb) (fun b hb => by rw [List.mem_singleton] at hb; subst hb; exact fpk _ hkn)
      let H3 : Hp := fun b => if b = c then none else Hi b
      have e3 : upd Hi c (.lst (sortBy xs ks)) = upd H3 c (.lst (sortBy xs ks)) := funext fun b => by
        by_cases z : b = c
        · rw [z, upd_same, upd_same]
        · rw [upd_ne z, upd_ne z]; exact (if_neg z).symm
      rw [e3] at J4
      refine h c H3 _ (fun b o q => ?_) hc (if_pos rfl) J4
      have z : b ≠ c := fun z => by rw [z, hc] at q; cases q
      show (if b = c then none else Hi b) = some o
      rw [if_neg z]
      exact sH b o (S0 b o q)
end
section
variable {X : Cx}
/-- o.m, taken as a value -/
def tBnd (C g : Addr) (m : Str) (to : TE) : TE := fun σ H Q => to σ H fun x H1 => ∃ a dx fs, x = .ref a ∧ H1 a = some (.ins C dx fs) ∧ fs.lookup m = none ∧ ∀ q, H1 q = none → Q (.ref q) (upd H1 q (.met g a))
theorem pe_bnd {o : Expr} {to : TE} {C g : Addr} {m : Str} {pos : Pos} (ho : PE X o to) (c : Cls X.K C) (b : BMeth X.K C m g) (hb : attributeBase o m X.env (eval o X.env) = eval o X.env := by rfl) : PE X (.Attribute o m pos) (tBnd C g m to) := by
  refine ⟨fun pins s σ H Q I h => ?_⟩
  refine attr_of hb (thn (ho.run pins s σ H _ I h) fun u s1 ⟨x, H1, I1, rx, a, dx, fs, ex, ea, l, q⟩ => ?_)
  subst ex
  exact op_getbound I1 ea c b l rx q
def rSortM (K : PySem.W.Frag) (g : Addr) (sp : Sp) : List V → List V → Hp → VK → Prop := fun vs zs H Q => ∃ p xs q a ks, vs = [.ref p] ∧ zs = [.ref q] ∧ SqL K H p xs ∧ H q = some (.met g a) ∧ ks.length = xs.length ∧
  (∀ (i : Nat) x n H', xs[i]? = some x → ks[i]? = some n → Same H H' → sp [.ref a, x] H' (fun v H'' => v = .int n ∧ Same H' H'') (fun _ _ _ => False)) ∧
  ∀ l H3, Same H H3 → H l = none → H3 l = none → Q (.ref l) (upd H3 l (.lst (sortBy xs ks)))
theorem cr_sortM {k : Nat} {g : Addr} {fd : FuncData} {ps : List Str} {sp : Sp} (F : FnOk X.prog X.w X.K X.mg X.base (L2.CX X.prog X.w) k g fd ps sp) (hr : Room (k + 2) X.A) (hb : Binds X.K fd ps []) : CallRK X (.builtin "sorted") [Str.ofString "key"] (rSortM X.K g sp) := by
  intro pins s σ H vs zs us ws Q I r rz h
  obtain ⟨p, xs, q, a, ks, rfl, rfl, hl, em, hk, turn, w⟩ := h
  cases r with
  | cons r1 r2 =>
    cases r1
    cases r2
    cases rz with
    | cons r1 r2 =>
      cases r1
      cases r2
      exact sortK_ok I hl em F hr hb hk turn fun l H3 s' h1 h2 h3 J => ⟨.ref l, _, J, rfl, w l H3 h1 h2 h3⟩
end
section
variable {N : Nm} {W : WX} {F B H F' B' H' F1 H1 F2 H2 F0 : Hp} {env : Env} {σ : L2.St} {fp : List Addr}
theorem keysOf_len {f : List T → FRes} {o : T} : ∀ {us : List T} {ks : List Int}, keysOf f o us = some ks → ks.length = us.length ∧ ∀ (i : Nat) u n, us[i]? = some u → ks[i]? = some n → gCall f [o, u] = .ok (.int n)
  | [], ks, h => by cases h; exact ⟨rfl, fun i u n h => by simp at h⟩
  | u :: us, ks, h => by
    have we : keysOf f o (u :: us) = (match gCall f [o, u] with
      | .ok (.int n) => (match keysOf f o us with | some ns => some (n :: ns) | none => none)
      | _ => none) := rfl
    rw [we] at h
    cases eg : gCall f [o, u] with
    | bad => rw [eg] at h; cases h
    | exc x => rw [eg] at h; cases h
    | ok t =>
      rw [eg] at h
      cases t with
      | int n =>
        dsimp only at h
        cases ek : keysOf f o us with
        | none => rw [ek] at h; cases h
        | some ns =>
          rw [ek] at h
          cases h
          obtain ⟨l, r⟩ := keysOf_len ek
          refine ⟨by simp [l], fun i u' n' hu hn => ?_⟩
          cases i with
          | zero => simp at hu hn; rw [← hu, ← hn]; exact eg
          | succ i => exact r i u' n' (by simpa using hu) (by simpa using hn)
      | _ => cases h
theorem Rs.triples : ∀ {us : List T} {xs : List V} {ks : List Int}, ks.length = us.length → Rs N F B H us xs [] → ∃ zs : List ((T × V) × Int), us.zip ks = zs.map (fun z => (z.1.1, z.2)) ∧ xs.zip ks = zs.map (fun z => (z.1.2, z.2)) ∧ ∀ z ∈ zs, R N F B H z.1.1 z.1.2 []
  | [], xs, ks, l, h => by
    obtain ⟨rfl, _⟩ := h
    exact ⟨[], by simp, by simp, fun _ z => nomatch z⟩
  | u :: us, xs, [], l, h => by cases l
  | u :: us, xs, k :: ks, l, h => by
    obtain ⟨v, xs', g1, g2, rfl, e2, h1, h2⟩ := h
    obtain ⟨rfl, rfl⟩ := List.append_eq_nil_iff.mp e2.symm
    obtain ⟨zs, e1, e3, r⟩ := Rs.triples (ks := ks) (by simpa using l) h2
    refine ⟨((u, v), k) :: zs, by simp [e1], by simp [e3], fun z hz => ?_⟩
    rcases List.mem_cons.mp hz with e | e
    · rw [e]; exact h1
    · exact r z e
theorem Rs.of_pairs : ∀ {zs : List ((T × V) × Int)}, (∀ z ∈ zs, R N F B H z.1.1 z.1.2 []) → Rs N F B H (zs.map (·.1.1)) (zs.map (·.1.2)) []
  | [], _ => ⟨rfl, rfl⟩
  | z :: zs, h => ⟨z.1.2, _, [], [], rfl, rfl, h z (List.mem_cons_self ..), Rs.of_pairs fun y hy => h y (List.mem_cons_of_mem _ hy)⟩
theorem Rs.sorted {us : List T} {xs : List V} {ks : List Int} (l : ks.length = us.length) (h : Rs N F B H us xs []) : Rs N F B H (sortT us ks) (sortBy xs ks) [] := by
  obtain ⟨zs, e1, e2, r⟩ := Rs.triples l h
  have m1 : ((us.zip ks).mergeSort fun p q => decide (p.2 ≤ q.2)) = (zs.mergeSort fun p q => decide (p.2 ≤ q.2)).map fun z => (z.1.1, z.2) := by
    rw [e1]; exact (List.map_mergeSort (r := fun p q : (T × V) × Int => decide (p.2 ≤ q.2)) (s := fun p q : T × Int => decide (p.2 ≤ q.2)) (f := fun z : (T × V) × Int => (z.1.1, z.2)) (fun a _ b _ => rfl)).symm
  have m2 : ((xs.zip ks).mergeSort fun p q => decide (p.2 ≤ q.2)) = (zs.mergeSort fun p q => decide (p.2 ≤ q.2)).map fun z => (z.1.2, z.2) := by
    rw [e2]; exact (List.map_mergeSort (r := fun p q : (T × V) × Int => decide (p.2 ≤ q.2)) (s := fun p q : V × Int => decide (p.2 ≤ q.2)) (f := fun z : (T × V) × Int => (z.1.2, z.2)) (fun a _ b _ => rfl)).symm
  unfold sortT sortBy
  rw [m1, m2, List.map_map, List.map_map]
  exact Rs.of_pairs (zs := zs.mergeSort fun p q => decide (p.2 ≤ q.2)) fun z hz => r z (List.mem_mergeSort.mp hz)
theorem sortT_len {us : List T} {ks : List Int} (l : ks.length = us.length) : (sortT us ks).length = us.length := by
  unfold sortT
  rw [List.length_map, List.length_mergeSort, List.length_zip]; omega
theorem sortT_all {us : List T} {ks : List Int} {p : T → Bool} (h : us.all p = true) : (sortT us ks).all p = true := by
  unfold sortT
  rw [List.all_eq_true] at h ⊢
  intro x hx
  obtain ⟨z, hz, rfl⟩ := List.mem_map.mp hx
  exact h _ (List.of_mem_zip (List.mem_mergeSort.mp hz)).1
theorem does_sortM {c m n : Nat} {io : List Nat} {f : List T → FRes} {g : Addr} {tl to : TE} {pl po : P} (inj : ∀ a b, N.att a = N.att b → a = b) (hm : ∀ ts, f ts ≠ .bad → ts.length = n) (hl : DoesP N W tl pl) (ho : DoesP N W to po) :
    DoesP N W (tCKw (rSortM N.K g (spD N n io f)) (tCons tl tNil) (tCons (tBnd (N.cls c) g (N.att m) to) tNil)) (pSortM c m f pl po) := by
  intro F0 B F H env σ fp Q s w
  refine hl.bind s w fun F1 H1 x v gx s1 e1 k1 w1 => ?_
  refine ho.bind s1 w1 fun F2 H2 o v2 go s2 e2 k2 w2 => ?_
  cases x with
  | lst fl ts =>
    dsimp only at w2
    by_cases c0 : (isIns c m o && (ts.map (T.of fl)).all T.solid) = true
    · rw [if_pos c0] at w2
      rw [Bool.and_eq_true] at c0
      cases ek : keysOf f o (ts.map (T.of fl)) with
      | none => rw [ek] at w2; exact w2.elim
      | some ks =>
        rw [ek] at w2
        dsimp only at w2
        obtain ⟨lk, kk⟩ := keysOf_len ek
        obtain ⟨a, dx, fs, rfl, ea, el⟩ := k2.r.isIns inj s2.fh s2.bh c0.1
        obtain ⟨p, xs, rfl, lz, h1, h2⟩ := (k1.r.grow e2.f Same.rfl' e2.h).list s2.fh s2.bh
        refine ⟨a, dx, fs, rfl, ea, el, fun q hq => ?_⟩
        have sq : Same H2 (upd H2 q (.met g a)) := same_upd hq
        refine ⟨p, xs, q, a, ks, rfl, rfl, SqL.of (sq _ _ h1), upd_same, by rw [lk]; exact h2.len, fun i y n0 H' hy hn sH => ?_, fun l H3 s3 hl0 hl3 => ?_⟩
        · obtain ⟨u, hu⟩ : ∃ u, (ts.map (T.of fl))[i]? = some u := by
            have : i < xs.length := (List.getElem?_eq_some_iff.mp hy).1
            exact ⟨_, List.getElem?_eq_getElem (by rw [h2.len]; exact this)⟩
          obtain ⟨y', ey, ry⟩ := h2.nil_at hu
          rw [hy] at ey
          cases ey
          have sH2 : Same H2 H' := sq.trans sH
          have ro := k2.r.grow Same.rfl' Same.rfl' sH2
          have ry' := ry.grow Same.rfl' Same.rfl' sH2
          refine call_wants (F := F2) (B := B) (WR' := fun _ _ _ => False) (xs := [o, u]) (g := go ++ ([] ++ [])) hm (fun _ _ _ z => z.elim) (s2.fh.trans sH2) (s2.bh.trans sH2) ⟨_, _, go, [] ++ [], rfl, rfl, ro, _, _, [], [], rfl, rfl, ry', rfl, rfl⟩ ?_
          rw [kk i u n0 hu hn]
          exact fun F' H'' v g' e' k' => ⟨k'.r.1, e'.h⟩
        · have hl2 : H2 l = none := sq.free hl0
          have s23 : Same H2 H3 := sq.trans s3
          have hF : F2 l = none := free_F s2.fh hl2
          have su := same_upd (o := HO.lst (sortBy xs ks)) hl3
          refine w2 F2 (upd H3 l (.lst (sortBy xs ks))) (.ref l) [l] ⟨Same.rfl', s23.trans su, (s2.fh.trans s23).trans su, fun a h => .inl h⟩ ⟨⟨l, _, rfl, by rw [sortT_len lk, List.length_map]; exact lz, [], rfl, upd_same, sortT_all c0.2, ?_⟩, by simp, fun a ha => ?_⟩
          · exact Rs.move Same.rfl' (fun _ z => nomatch z) (sortT_all c0.2) (Rs.sorted lk h2)
          · rw [List.mem_singleton] at ha; subst ha; exact ⟨hl2, hF⟩
    · rw [if_neg c0] at w2; exact w2.elim
  | _ => exact w2.elim
end
end Cd

set_option Elab.async false
set_option linter.all false
set_option maxRecDepth 100000
/-! Calls of methods and classes where what is raised is wished for at the caller's slots. -/
namespace Cd
open PySem PySem.Spec PyProof.Rows L2
section
variable {X : Cx} {k : Nat} {f C : Addr} {fd : FuncData} {qs : List Str} {sp : Sp} {W : WX} {x m : Str} {p pos apos : Pos} {e o : Expr} {es : List Expr} {ta : TE} {t : TA} {pl : Sem Bool}
theorem pe_mS (he : PE X o ta) (c : Cls X.K C) (hm : Meth X.K C m f) (F : FnOk X.prog X.w X.K X.mg X.base (L2.CX X.prog X.w) k f fd qs sp) (hr : Room k X.A) (hb : Binds X.K fd qs []) (tk : Takes X W) (ha : PA X (e :: es) t)
    (hst : starEach (e :: es) X.env = (false, eval e X.env) :: starEach es X.env := by rfl) (hpl : (backTo pos (starEach es X.env)).any (·.1) = false := by rfl)
    (ht : eval (.Call (.Attribute o m apos) (e :: es) [] pos) X.env = (do
      let v ← eval o X.env
      standAt apos.atName
      let (g, z) ← holding [v] (getMethod v m pl)
      callWith pos g z (backTo pos (starEach (e :: es) X.env)) (backToKw pos (keywordEach [] X.env))) := by rfl) :
    PE X (.Call (.Attribute o m apos) (e :: es) [] pos) (tCallS sp (WE W) (tConsI C m ta t)) := by
  refine ⟨fun pins s σ H Q I h => ?_⟩
  refine PySem.W.methodCall_KW (pl := pl) (thn (he.run pins s σ H _ I h) fun u s1 ⟨x, H1, I1, rx, a, dx, fs, ex, ea, l, q⟩ => ?_) ht
  subst ex
  obtain rfl : u = Value.ref a := rx
  refine getmeth_ok I1 ea c hm l ?_
  refine PySem.W.callWith_K (first := [.ref a]) (h₀ := X.base) I.ok.mod.kin hm.kp (thn (ha.run pos pins s1 σ H1 _ I1 q) fun us s2 ⟨vs, H2, I2, r, q2⟩ => ⟨I2.kIn, ?_⟩) hst hpl
  exact run_fnS (us := .ref a :: us) (vs := .ref a :: vs) F hr hb (passAt tk σ) I2 (.cons rfl r) q2
theorem pe_mS0 (he : PE X o ta) (c : Cls X.K C) (hm : Meth X.K C m f) (F : FnOk X.prog X.w X.K X.mg X.base (L2.CX X.prog X.w) k f fd qs sp) (hr : Room k X.A) (hb : Binds X.K fd qs []) (tk : Takes X W)
    (ht : eval (.Call (.Attribute o m apos) [] [] pos) X.env = (do
      let v ← eval o X.env
      standAt apos.atName
      let (g, z) ← holding [v] (getMethod v m pl)
      callWith pos g z (backTo pos (starEach [] X.env)) (backToKw pos (keywordEach [] X.env))) := by rfl) :
    PE X (.Call (.Attribute o m apos) [] [] pos) (tCallS sp (WE W) (tConsI C m ta tNil)) := by
  refine ⟨fun pins s σ H Q I h => ?_⟩
  refine PySem.W.methodCall_KW (pl := pl) (thn (he.run pins s σ H _ I h) fun u s1 ⟨x, H1, I1, rx, a, dx, fs, ex, ea, l, q⟩ => ?_) ht
  subst ex
  obtain rfl : u = Value.ref a := rx
  refine getmeth_ok I1 ea c hm l ?_
  exact PySem.W.callWith_K0 (first := [.ref a]) I1.kIn hm.kp (run_fnS (us := [.ref a]) (vs := [.ref a]) F hr hb (passAt tk σ) I1 (.cons rfl .nil) q)
theorem run_mkS {pins : List (Addr × Obj)} {σ : L2.St} {H : Hp} {s : Shared} {Q : VK} {us : List Value} {vs : List V} (M : Mk X.K C f) (F : FnOk X.prog X.w X.K X.mg X.base (L2.CX X.prog X.w) k f fd qs sp) (hr : Room (k + 1) X.A) (hb : Binds X.K fd qs [])
    (tk : Takes X W) (I : Inv X pins σ H s) (r : Vals vs us)
    (h : ∀ y dx, H y = none → H dx = none → dx ≠ y → sp (.ref y :: vs) (upd (upd H dx (.own y)) y (.ins C dx [])) (fun v H2 => v = .non ∧ Q (.ref y) H2) (WE W σ)) :
    wpAny (model X.prog X.w) X.A (call (.ref C) us) (EP X pins σ Q) X.xe s := by
  have hq := h (s.heap.objs.size + 1) s.heap.objs.size (I.hok.fresh (Nat.le_succ _)) (I.hok.fresh (Nat.le_refl _)) (Nat.ne_of_lt (Nat.lt_succ_self _))
  have J := Inv.made (C := C) I
  have r2 : Vals (V.ref (s.heap.objs.size + 1) :: vs) (Value.ref (s.heap.objs.size + 1) :: us) := .cons rfl r
  have hl : (Value.ref (s.heap.objs.size + 1) :: us).length = qs.length := by rw [← r2.length]; exact F.len _ _ _ _ hq
  have b2 := hb _ (Value.ref (s.heap.objs.size + 1) :: us) J.kIn (by rw [List.append_nil]; exact hl)
  rw [List.append_nil] at b2
  refine wpAny_call (make_map (f := f) I.kIn M.makes M.init (beq_iff_eq.mp M.fn) (codeAny_mono (F.run _ X.stack _ _ ⟨Value.ref (s.heap.objs.size + 1) :: us, []⟩ (Value.ref (s.heap.objs.size + 1) :: us) _ _ (WE W σ) (hr.make C us [])
    (J.env0.make C us []) b2 r2 hq) fun z s' hz => ?_))
  cases z with
  | error e => exact passAt tk σ pins _ _ e s' J hz
  | ok fl =>
    cases fl with
    | ret u =>
      obtain ⟨v, H', J2, rv, ev, q3⟩ := J.after hz
      subst ev
      exact ⟨rv, ⟨V.ref (s.heap.objs.size + 1), H', J2, rfl, q3⟩⟩
    | next => exact False.elim hz
    | brk => exact False.elim hz
    | cont => exact False.elim hz
theorem pe_mkS (M : Mk X.K C f) (F : FnOk X.prog X.w X.K X.mg X.base (L2.CX X.prog X.w) k f fd qs sp) (hr : Room (k + 1) X.A) (hg : Gl X x) (hm : X.mg x = some (.ref C)) (hb : Binds X.K fd qs []) (tk : Takes X W)
    (ha : PA X (e :: es) t) (hdb : (x == ("__debug__" : Str)) = false := by decide) (he : starEach (e :: es) X.env = (false, eval e X.env) :: starEach es X.env := by rfl) (hpl : (backTo pos (starEach es X.env)).any (·.1) = false := by rfl) :
    PE X (.Call (.Name x p) (e :: es) [] pos) (tMakeS C sp (WE W) t) := by
  refine ⟨fun pins s σ H Q I h => ?_⟩
  refine wpAny_Call_Name_kw (ld_glob I hg hm ?_ hdb)
  refine PySem.W.callWith_K (h₀ := X.base) I.ok.mod.kin M.kp (thn (ha.run pos pins s σ H _ I h) fun us s1 ⟨vs, H1, I1, r, q⟩ => ⟨I1.kIn, ?_⟩) he hpl
  exact run_mkS M F hr hb tk I1 r q
theorem pe_mkS0 (M : Mk X.K C f) (F : FnOk X.prog X.w X.K X.mg X.base (L2.CX X.prog X.w) k f fd qs sp) (hr : Room (k + 1) X.A) (hg : Gl X x) (hm : X.mg x = some (.ref C)) (hb : Binds X.K fd qs []) (tk : Takes X W)
    (hdb : (x == ("__debug__" : Str)) = false := by decide) : PE X (.Call (.Name x p) [] [] pos) (tMakeS C sp (WE W) tNil) := by
  refine ⟨fun pins s σ H Q I h => ?_⟩
  refine wpAny_Call_Name_kw (ld_glob I hg hm ?_ hdb)
  exact PySem.W.callWith_K0 I.kIn M.kp (run_mkS (us := []) M F hr hb tk I .nil h)
theorem pe_callS0 (F : FnOk X.prog X.w X.K X.mg X.base (L2.CX X.prog X.w) k f fd qs sp) (hr : Room k X.A) (hg : Gl X x) (hm : X.mg x = some (.ref f)) (hk : PySem.W.keepIn X.K (.ref f) = true) (hb : Binds X.K fd qs []) (tk : Takes X W)
    (hdb : (x == ("__debug__" : Str)) = false := by decide) : PE X (.Call (.Name x p) [] [] pos) (tCallS sp (WE W) tNil) := by
  refine ⟨fun pins s σ H Q I h => ?_⟩
  refine wpAny_Call_Name_kw (ld_glob I hg hm ?_ hdb)
  exact PySem.W.callWith_K0 I.kIn hk (run_fnS (us := []) F hr hb (passAt tk σ) I .nil h)
end
theorem hu65 {k : Nat} {A : Around} (r : Room k A) : A.units + 65 < cLine := by have := r.un; omega
theorem hu1 {k : Nat} {A : Around} (r : Room k A) : A.units + 1 < cLine := by have := r.un; omega
theorem hu64 {k : Nat} {A : Around} (r : Room k A) : A.units + 64 < cLine := by have := r.un; omega
section
variable {N : Nm} {W : WX} {WR' : WR}
theorem v_is2 : V2 N WR' (fun x y H Q => y = .non ∧ Q (.bl (decide (x = .non))) H) gIs2 := v_isN
theorem v_isNot2 : V2 N WR' (fun x y H Q => y = .non ∧ Q (.bl (!decide (x = .non))) H) gIsNot2 := v_notN
theorem does_upd0 {to : TE} {q : LvE} {op : T → List T → Option (T × T)} {r : V → List V → Hp → VK → Prop} {ty : String} (hu : UpdV N r op) (hty : ∀ F B H t v g as x, op t as = some x → t.flag = .own → R N F B H t v g → tyV N.K ty v H) (hq : DoesLv N to q) :
    DoesI N W (tBM0 N.K ty r to) (iUpd q aNil op) := does_upd (ta := tNil) hu hty hq does_aNil
end
/-! the same rules, the written part by its own name -/
section
variable {X : Cx} {K : PySem.W.Frag} {e o : Expr} {es : List Expr} {ta te : TE} {t : TA} {pos apos cpos : Pos} {tg : Expr}
theorem ixK (hu : X.A.units + 1 < cLine) (hK : X.K = K := by rfl) : IxR X (rIxA K) := hK ▸ ix_any hu
theorem ixLK (hK : X.K = K := by rfl) : IxR X (rIxL K) := hK ▸ ix_list
theorem inK (hu : X.A.units + 65 < cLine) (hK : X.K = K := by rfl) : OpR X (compareOp .In) (rInA K) := hK ▸ op_inA hu
theorem notInK (hu : X.A.units + 65 < cLine) (hK : X.K = K := by rfl) : OpR X (compareOp .NotIn) (rNotInA K) := hK ▸ op_notInA hu
theorem eqK (hu : X.A.units + 64 < cLine) (hK : X.K = K := by rfl) : OpR X (compareOp .Eq) (rEqD K) := hK ▸ op_eqD hu
theorem neK (hu : X.A.units + 64 < cLine) (hK : X.K = K := by rfl) : OpR X (compareOp .NotEq) (rNeD K) := hK ▸ op_neD hu
theorem fldK {f : Str} (he : PE X e ta) (hb : attributeBase e f X.env (eval e X.env) = eval e X.env := by rfl) (hK : X.K = K := by rfl) : PE X (.Attribute e f pos) (tFld K ta f) := hK ▸ pe_fld he hb
theorem lenK (hK : X.K = K := by rfl) : CallR X (.builtin "len") (fun xs H Q => ∃ p ys, xs = [.ref p] ∧ (SqL K H p ys ∨ SqT K H p ys) ∧ Q (.int ys.length) H) := hK ▸ call_len_seq
theorem listK (hK : X.K = K := by rfl) : CallR X (.type "list") (fun xs H Q => ∃ p ys, xs = [.ref p] ∧ (SqL K H p ys ∨ SqT K H p ys) ∧ ∀ l, H l = none → Q (.ref l) (upd H l (.lst ys))) := hK ▸ call_list_of
theorem isiK (hK : X.K = K := by rfl) : CallR X (.builtin "isinstance") (rIsi K) := hK ▸ call_isi
theorem indexK (hu : X.A.units + 65 < cLine) (hK : X.K = K := by rfl) : MtR X "list.index" (rIndexD K) := hK ▸ mt_indexD hu
theorem sliceK (hK : X.K = K := by rfl) : SlR X (rSlL K) := hK ▸ sl_list
theorem piListK (hl : PE X e te) (hK : X.K = K := by rfl) : PI X tg e (iList K te) := hK ▸ pi_list hl
theorem piTupK (hl : PE X e te) (hK : X.K = K := by rfl) : PI X tg e (iTup K te) := hK ▸ pi_tup hl
theorem pgTupK {n k : Nat} {u : TGs} (hc : X.calm = true) (h : PGs X es u) (hn : (assignEach es X.env).length = n := by rfl) (hst : (assignEach es X.env).findIdx? (·.1) = none := by rfl) (hK : X.K = K := by rfl) : PG X (.Tuple es k pos) (L2.gTup K n u) := hK ▸ pg_tup hc h hn hst
theorem bmK {T' id : String} {name : Str} {r : V → List V → Hp → VK → Prop} {to : TE} (pa : PlainAttrs T') (slot : Slot T' name id) (hty : typeOf (.builtin id) = pure (.type "method_descriptor")) (hm : MtR X id r) (ho : PE X o to) (ha : PA X (e :: es) t)
    (hbase : attributeBase o name X.env (eval o X.env) = eval o X.env := by rfl)
    (hfew : ((backTo cpos (starEach (e :: es) X.env)).all (fun x => !x.1) && (backToKw cpos (keywordEach [] X.env)).all (fun x => x.1.isSome)
      && decide ((e :: es).length + ([] : List Keyword).length + (if ([] : List Keyword).isEmpty then 0 else 1) < 30)) = true := by rfl)
    (hline : (apos.endLine == cpos.line) = true := by rfl) (hs : starEach (e :: es) X.env = (false, eval e X.env) :: starEach es X.env := by rfl) (hplain : (backTo cpos (starEach es X.env)).any (·.1) = false := by rfl) (hK : X.K = K := by rfl) :
    PE X (.Call (.Attribute o name apos) (e :: es) [] cpos) (tBM K T' r to t) := hK ▸ pe_bm pa slot hty hm ho ha hbase hfew hline hs hplain
theorem bm0K {T' id : String} {name : Str} {r : V → List V → Hp → VK → Prop} {to : TE} (pa : PlainAttrs T') (slot : Slot T' name id) (hty : typeOf (.builtin id) = pure (.type "method_descriptor")) (hm : MtR X id r) (ho : PE X o to)
    (hbase : attributeBase o name X.env (eval o X.env) = eval o X.env := by rfl) (hline : (apos.endLine == cpos.line) = true := by rfl) (hK : X.K = K := by rfl) : PE X (.Call (.Attribute o name apos) [] [] cpos) (tBM0 K T' r to) := hK ▸ pe_bm0 pa slot hty hm ho hbase hline
theorem setFldK {f : Str} {value : Expr} {tv : TE} {pos' : Pos} (ha : PE X o ta) (hv : PE X value tv) (hs : swapsWith value (some (.Attribute o f pos')) pos.line X.env = pure false := by rfl) (hK : X.K = K := by rfl) : PS X (.Assign [.Attribute o f pos'] value pos) (sFld K ta tv f) := hK ▸ ps_fld ha hv hs
theorem sortMK {k : Nat} {g : Addr} {fd : FuncData} {ps : List Str} {sp : Sp} (F : FnOk X.prog X.w X.K X.mg X.base (L2.CX X.prog X.w) k g fd ps sp) (hr : Room (k + 2) X.A) (hb : Binds X.K fd ps []) (hK : X.K = K := by rfl) : CallRK X (.builtin "sorted") [Str.ofString "key"] (rSortM K g sp) := hK ▸ cr_sortM F hr hb
theorem setK (hu : X.A.units + 1 < cLine) : PSet X rSetA := set_any hu
end
/-- the names behind numbers -/
def attOf (ns : List Str) (n : Nat) : Str := match ns[n]? with | some s => s | none => ⟨(List.replicate (n + 1000) 0).toArray⟩
theorem attOf_inj {ns : List Str} (hd : ns.Nodup) (hs : ns.all (fun s => decide (s.cps.size < 1000)) = true) (a b : Nat) (h : attOf ns a = attOf ns b) : a = b := by
  unfold attOf at h
  rw [List.all_eq_true] at hs
  have sz : ∀ {n : Nat} {s : Str}, ns[n]? = some s → s.cps.size < 1000 := fun e => of_decide_eq_true (hs _ (List.mem_of_getElem? e))
  cases ea : ns[a]? with
  | some s =>
    rw [ea] at h
    cases eb : ns[b]? with
    | some t =>
      rw [eb] at h
      dsimp only at h
      subst h
      obtain ⟨la, ha⟩ := List.getElem?_eq_some_iff.mp ea
      obtain ⟨lb, hb⟩ := List.getElem?_eq_some_iff.mp eb
      exact (List.getElem_inj hd).mp (ha.trans hb.symm)
    | none =>
      rw [eb] at h
      dsimp only at h
      have := sz ea
      rw [h] at this
      simp at this
      omega
  | none =>
    rw [ea] at h
    cases eb : ns[b]? with
    | some t =>
      rw [eb] at h
      dsimp only at h
      have := sz eb
      rw [← h] at this
      simp at this
      omega
    | none =>
      rw [eb] at h
      dsimp only at h
      have := congrArg (fun s : Str => s.cps.size) h
      simp at this
      omega
/-! ### the law -/
theorem Rs.ints {N : Nm} {F B H : Hp} : ∀ {ns : List Int}, Rs N F B H (ns.map T.int) (ns.map V.int) []
  | [] => ⟨rfl, rfl⟩
  | n :: ns => ⟨.int n, _, [], [], rfl, rfl, ⟨rfl, rfl⟩, Rs.ints⟩
def spLaw (K : PySem.W.Frag) : Sp := fun vs H Q _ => ∃ (a : Addr) (ns : List Int), vs = [.ref a] ∧ ns.length ≤ 63 ∧ SqL K H a (ns.map V.int) ∧ ∀ H', Q (.bl true) H'
theorem law_spec {N : Nm} {m : List T → FRes} (hL : ∀ ns : List Int, ns.length ≤ 63 → m [.kon true (ns.map T.int)] = .ret (.bl true) []) {vs : List V} {H : Hp} {Q : VK} {E : XK} (h : spLaw N.K vs H Q E) : spD N 1 [] m vs H Q E := by
  obtain ⟨a, ns, rfl, hl, hS, k⟩ := h
  refine ⟨rfl, H, fun _ => none, [.kon true (ns.map T.int)], [], Same.rfl', (fun _ _ z => nomatch z), Rs.single ⟨rfl, a, _, [], rfl, ?_, hS, Rs.ints⟩, rfl, List.nodup_nil, fun _ z => (nomatch z), ?_⟩
  · rw [List.length_map]
    exact Nat.le_trans hl (by decide)
  · rw [hL ns hl]
    intro F' H' fo v g _ _ _ _ _ _ _ b
    rw [b.r.1]
    exact k H'
end Cd

set_option Elab.async false
set_option linter.all false
set_option maxRecDepth 100000
namespace Cd
abbrev FUEL : Nat := 1000
def m_is_whole : List T → FRes := defM 1 0 [] (mRet (iP (pAnd (p1 (gIsi "int") (pVar 0)) (p1 gNot (p1 (gIsi "bool") (pVar 0))))))
def m_Tree_comes_out : List T → FRes := defM 4 0 [3] (mSeq (mIf (iP (p2 gIs2 (pVar 1) (pC .non))) (mRet (iP (pVar 2))) mNext)
  (mSeq (mIf (iP (p2 gIs2 (pVar 2) (pC .non))) (mRet (iP (pVar 1))) mNext)
  (mSeq (mIf (iP (pOr (p2 gEq (pVar 1) (pC (.int (-1)))) (p2 gEq (pVar 2) (pC (.int (-1)))))) (mRet (iP (pC (.int (-1))))) mNext)
  (mSeq (mIf (iP (p2 gEq (pGet1 (p1 (gFld 0 2) (pVar 0)) (pVar 1)) (pVar 2))) (mRet (iP (pVar 2))) mNext)
  (mSeq (mIf (iP (p2 gEq (pGet1 (p1 (gFld 0 2) (pVar 0)) (pVar 2)) (pVar 1))) (mRet (iP (pVar 1))) mNext)
  (mSeq (mDrop (iUpd (lvVar 3) (aCons (pA dTup (aCons (pVar 1) (aCons (pVar 2) aNil))) aNil) uAppend))
  (mRet (iP (pC (.int (-1)))))))))))
def m_Tree_slot_of : List T → FRes := defM 2 0 [] (mRet (iP (pMth gIndex (p1 (gFld 0 0) (pVar 0)) (aCons (p2 gIx (pVar 1) (pC (.int 0))) aNil))))
def m_Tree_left : List T → FRes := defM 1 1 [] (mRet (iP (pLc (sRng1 (p1 (gFld 0 1) (pVar 0))) (.nm 1) (p2 gNotIn (pVar 1) (p1 (gFld 0 2) (pVar 0))) (pVar 1) [1])))
def m_Tree_beaten_by : List T → FRes := defM 2 0 [] (mRet (iP (pGet1 (p1 (gFld 0 2) (pVar 0)) (pVar 1))))
def m__law_drawn : List T → FRes := defM 3 1 [] (mSeq (mAsg (.nm 3) (iP (p2 gAdd (p2 gMul (p2 gMul (pC (.int 104729)) (pVar 1)) (pVar 1)) (pC (.int 48271)))))
  (mSeq (mIf (iP (p2 gGt (pA gLen1 (aCons (pVar 0) aNil)) (pC (.int 0)))) (mAsg (.nm 3) (iP (p2 gAdd (pVar 3) (p2 gMul (p2 gMod (p2 gIx (pVar 0) (p2 gMod (pVar 1) (pA gLen1 (aCons (pVar 0) aNil)))) (p2 gPow (pC (.int 10)) (pC (.int 40)))) (p2 gAdd (p2 gMul (pC (.int 2)) (pVar 1)) (pC (.int 69621))))))) mNext)
  (mRet (iP (p2 gMod (p2 gDiv (p2 gMod (pVar 3) (pC (.int 2147483647))) (pC (.int 3))) (pVar 2))))))
def m__law_size : List T → FRes := defM 1 1 [] (mRet (iP (p2 gIx (pLc (sList (pFz (pA dLst (aCons (pC (.int 1)) (aCons (pC (.int 2)) (aCons (pC (.int 4)) (aCons (pC (.int 8)) (aCons (pC (.int 16)) aNil)))))))) (.nm 1) (p2 gGt (pVar 1) (pVar 0)) (pVar 1) [1]) (pC (.int 0)))))
def m_is_between : List T → FRes := defM 3 0 [] (mRet (iP (pAnd (pA (gCall m_is_whole) (aCons (pVar 0) aNil)) (pChain gLe gLe (pVar 1) (pVar 0) (pVar 2)))))
def m_Tree_champion : List T → FRes := defM 1 1 [] (mSeq (mAsg (.nm 1) (iP (pFz (pA (gCall m_Tree_left) (aConsI 0 7 (pVar 0) aNil)))))
  (mSeq (mIf (iP (p2 gEq (pA gLen1 (aCons (pVar 1) aNil)) (pC (.int 1)))) (mRet (iP (p2 gIx (pVar 1) (pC (.int 0))))) mNext)
  (mRet (iP (pC .non)))))
def m_slots_of : List T → FRes := defM 1 4 [] (mSeq (mIf (iP (p1 gNot (pA (gCall m_is_between) (aCons (pVar 0) (aCons (pC (.int 1)) (aCons (pC (.int 16)) aNil)))))) (mRaise 2) mNext)
  (mSeq (mAsg (.nm 1) (iP (pFz (pA dLst (aCons (pC (.int 0)) aNil)))))
  (mSeq (mWhile (fun _ => FUEL) (p2 gLt (pA gLen1 (aCons (pVar 1) aNil)) (pVar 0)) (mSeq (mAsg (.nm 2) (iP (p2 gSub (p2 gMul (pC (.int 2)) (pA gLen1 (aCons (pVar 1) aNil))) (pC (.int 1)))))
  (mSeq (mAsg (.nm 3) (iP (pA dLst aNil)))
  (mSeq (mFor (sList (pVar 1)) (.nm 4) (mSeq (mDrop (iUpd (lvVar 3) (aCons (pVar 4) aNil) uAppend))
  (mDrop (iUpd (lvVar 3) (aCons (p2 gSub (pVar 2) (pVar 4)) aNil) uAppend))) [])
  (mAsg (.nm 1) (iFz (iMv 3)))))) [2, 3])
  (mRet (iP (pLc (sList (pVar 1)) (.nm 4) pYes (pIf (p2 gLt (pVar 4) (pVar 0)) (pVar 4) (pC .non)) [4]))))))
def m_Tree___init__ : List T → FRes := defM 2 0 [0] (mSeq (mFld (lvVar 0) 0 0 (iP (pFz (pA (gCall m_slots_of) (aCons (pVar 1) aNil)))))
  (mSeq (mFld (lvVar 0) 0 1 (iP (pVar 1)))
  (mFld (lvVar 0) 0 2 (iP pDK))))
def m_Tree_due : List T → FRes := defM 1 3 [] (mSeq (mAsg (.nm 1) (iP (pA dLst aNil)))
  (mSeq (mAsg (.nm 2) (iP (pFz (pA gList1 (aCons (p1 (gFld 0 0) (pVar 0)) aNil)))))
  (mSeq (mWhile (fun _ => FUEL) (p2 gGt (pA gLen1 (aCons (pVar 2) aNil)) (pC (.int 1))) (mAsg (.nm 2) (iFz (iLc (sRngBy2 (pC (.int 0)) (pA gLen1 (aCons (pVar 2) aNil))) (.nm 3) (iMeth 0 3 (pVar 0) m_Tree_comes_out [3] [.val (iP (pVar 0)), .val (iP (p2 gIx (pVar 2) (pVar 3))), .val (iP (p2 gIx (pVar 2) (p2 gAdd (pVar 3) (pC (.int 1))))), .own 1]) [3]))) [])
  (mRet (iP (pSortM 0 5 m_Tree_slot_of (pVar 1) (pVar 0)))))))
def m_Tree_told : List T → FRes := defM 3 1 [0] (mSeq (mIf (iP (pOr (p1 gNot (pA (gCall m_is_between) (aCons (pVar 1) (aCons (pC (.int 0)) (aCons (p2 gSub (p1 (gFld 0 1) (pVar 0)) (pC (.int 1))) aNil))))) (p1 gNot (pA (gCall m_is_between) (aCons (pVar 2) (aCons (pC (.int 0)) (aCons (p2 gSub (p1 (gFld 0 1) (pVar 0)) (pC (.int 1))) aNil))))))) (mRaise 3) mNext)
  (mSeq (mAsg (.nm 3) (iP (pFz (pA (gCall m_Tree_due) (aConsI 0 4 (pVar 0) aNil)))))
  (mSeq (mIf (iP (pAnd (p2 gNotIn (pA dTup (aCons (pVar 1) (aCons (pVar 2) aNil))) (pVar 3)) (p2 gNotIn (pA dTup (aCons (pVar 2) (aCons (pVar 1) aNil))) (pVar 3)))) (mRaise 3) mNext)
  (mSetIx (lvFld 0 2 (lvVar 0)) (pVar 2) (iP (pVar 1)) setAny))))
def m__law_right : List T → FRes := defM 3 6 [] (mSeq (mAsg (.nm 3) (iP (pA (pMake 0 m_Tree___init__) (aCons (pVar 2) aNil))))
  (mSeq (mFor (sRng1 (p2 gSub (pVar 2) (pC (.int 1)))) (.nm 4) (mSeq (mAsg (.nm 5) (iP (pFz (pA (gCall m_Tree_due) (aConsI 0 4 (pVar 3) aNil)))))
  (mSeq (mIf (iP (pOr (p1 gNot (p1 (gIsi "list") (pVar 5))) (p2 gEq (pVar 5) (pA dLst aNil)))) (mRet (iP (pC (.bl false)))) mNext)
  (mSeq (mFor (sList (pVar 5)) (.tp ((.nm 6) :: ((.nm 7) :: []))) (mIf (iP (pOr (p2 gNotIn (p2 gAdd (p2 gAdd (pVar 6) (pVar 7)) (pC (.int 1))) (pA dTup (aCons (pC (.int 2)) (aCons (pC (.int 4)) (aCons (pC (.int 8)) (aCons (pC (.int 16)) aNil)))))) (p2 gGe (p2 gMul (pC (.int 2)) (pA gMin2 (aCons (pVar 6) (aCons (pVar 7) aNil)))) (p2 gAdd (pVar 6) (pVar 7))))) (mRet (iP (pC (.bl false)))) mNext) [6, 7])
  (mSeq (mAsg (.tp ((.nm 6) :: ((.nm 7) :: []))) (iP (p2 gIx (pVar 5) (pA (gCall m__law_drawn) (aCons (pVar 0) (aCons (p2 gAdd (p2 gMul (pC (.int 20)) (pVar 1)) (pVar 4)) (aCons (pA gLen1 (aCons (pVar 5) aNil)) aNil)))))))
  (mDrop (iMeth 0 6 (pVar 3) m_Tree_told [0] [.own 3, .val (iP (pA gMin2 (aCons (pVar 6) (aCons (pVar 7) aNil)))), .val (iP (pA gMax2 (aCons (pVar 6) (aCons (pVar 7) aNil))))])))))) [4, 5, 6, 7])
  (mSeq (mIf (iP (pOr (p2 gNe (pA (gCall m_Tree_due) (aConsI 0 4 (pVar 3) aNil)) (pA dLst aNil)) (pOr (p2 gNe (pA (gCall m_Tree_champion) (aConsI 0 9 (pVar 3) aNil)) (pC (.int 0))) (pOr (p2 gNe (pA (gCall m_Tree_left) (aConsI 0 7 (pVar 3) aNil)) (pA dLst (aCons (pC (.int 0)) aNil))) (p2 gIsNot2 (pA (gCall m_Tree_beaten_by) (aConsI 0 8 (pVar 3) (aCons (pC (.int 0)) aNil))) (pC .non)))))) (mRet (iP (pC (.bl false)))) mNext)
  (mSeq (mFor (sRng2 (pC (.int 1)) (pVar 2)) (.nm 8) (mIf (iP (p2 gNe (pA (gCall m_Tree_beaten_by) (aConsI 0 8 (pVar 3) (aCons (pVar 8) aNil))) (p2 gSub (p2 gSub (pA (gCall m__law_size) (aCons (pVar 8) aNil)) (pC (.int 1))) (pVar 8)))) (mRet (iP (pC (.bl false)))) mNext) [8])
  (mRet (iP (pC (.bl true))))))))
def m_law : List T → FRes := defM 1 2 [] (mSeq (mAsg (.nm 1) (iP (pFz (pCut (pVar 0) poN (poS (pC (.int 6)))))))
  (mSeq (mIf (iP (p2 gEq (pVar 1) (pA dLst aNil))) (mAsg (.nm 1) (iP (pFz (pA dLst (aCons (pC (.int 0)) aNil))))) mNext)
  (mSeq (mFor (sRng1 (pA gLen1 (aCons (pVar 1) aNil))) (.nm 2) (mIf (iP (p1 gNot (pA (gCall m__law_right) (aCons (pVar 0) (aCons (pVar 2) (aCons (p2 gAdd (pC (.int 1)) (p2 gMod (p2 gIx (pVar 1) (pVar 2)) (pC (.int 16)))) aNil)))))) (mRet (iP (pC (.bl false)))) mNext) [2])
  (mRet (iP (pC (.bl true)))))))
end Cd

set_option linter.all false
set_option maxRecDepth 100000
/-! Reckoning with what is computed. -/
namespace Cd
theorem iMeth_pos {c m : Nat} {p : P} {f : List T → FRes} {io : List Nat} {as : List Ar} {e : Env} (h : isInsP c m (p e) = true) : iMeth c m p f io as e = iCall f io as e := if_pos h
theorem iCall_ok {m : List T → FRes} {io : List Nat} {as : List Ar} {e e0 e1 : Env} {vs : List (Option T)} {ts os : List T} {t : T} (h : (ownsThere as e && ioOwn 0 io as) = true) (hv : iVals as e = .ok vs e0) (ht : iTake as vs e0 = some (ts, e1)) (hm : m (handed 0 io ts) = .ret t os) :
    iCall m io as e = .ok t.back (putBack 0 io as ts os e1) := by
  unfold iCall
  rw [if_pos h, hv]
  dsimp only
  rw [ht]
  dsimp only
  rw [hm]
theorem aConsI_pos {c m : Nat} {p : P} {r : A} {e : Env} (h : isInsP c m (p e) = true) : aConsI c m p r e = aCons p r e := if_pos h
theorem ixOf_nat {n j : Nat} (h : j < n) : ixOf n (j : Int) = some j := by
  unfold ixOf
  rw [if_pos (by omega), if_pos (by omega)]; simp
/-! steps -/
section
variable {e e0 e1 e2 e3 : Env} {t u : T} {ts us : List T} {x : Ex} {a b : M} {i j : I} {p q : P} {g : Tg} {fg : List Nat} {n k : Nat} {io : List Nat} {os : List T} {f : List T → FRes}
theorem iP_ok (h : p e = .ok t) : iP p e = .ok t e := by unfold iP; rw [h]
theorem iFz_ok (h : i e = .ok t e1) (hf : t.frz1 = some u) : iFz i e = .ok u e1 := by
  show (i e).on (fun t => ofO t.frz1) = _
  rw [h]
  show (match ofO t.frz1 with | .ok u => ERes.ok u e1 | .exc x => .exc x e1 | .bad => .bad) = _
  rw [hf]; rfl
theorem pFz_ok (h : p e = .ok t) (hf : t.frz1 = some u) : pFz p e = .ok u := by
  show (p e).bind (fun t => ofO t.frz1) = _
  rw [h, PRes.bind_ok, hf]; rfl
theorem p1_ok {w : T → PRes} (h : p e = .ok t) : p1 w p e = w t := by show (p e).bind w = _; rw [h]; rfl
theorem p2_ok {w : T → T → PRes} (h : p e = .ok t) (h2 : q e = .ok u) : p2 w p q e = w t u := by show (p e).bind (fun x => (q e).bind fun y => w x y) = _; rw [h, PRes.bind_ok, h2]; rfl
theorem pA_ok {w : List T → PRes} {r : A} (h : r e = .ok ts) : pA w r e = w ts := by show (r e).bind w = _; rw [h]; rfl
theorem aCons_ok {r : A} (h : p e = .ok t) (h2 : r e = .ok ts) : aCons p r e = .ok (t :: ts) := by
  show (match p e with | .ok t => (match r e with | .ok ts => LRes.ok (t :: ts) | .exc x => .exc x | .bad => .bad) | .exc x => .exc x | .bad => .bad) = _
  rw [h, h2]
theorem gCall_ok {m : List T → FRes} (h : m (ts.map T.lend) = .ret t os) : gCall m ts = .ok t.back := by unfold gCall; rw [h]
theorem seq_next (h : a e = .next e1) : mSeq a b e = b e1 := by show (a e).seq b = _; rw [h]; rfl
theorem seq_ret (h : a e = .ret t e1) : mSeq a b e = .ret t e1 := by show (a e).seq b = _; rw [h]; rfl
theorem seq_exc (h : a e = .exc x e1) : mSeq a b e = .exc x e1 := by show (a e).seq b = _; rw [h]; rfl
theorem seq_brk (h : a e = .brk e1) : mSeq a b e = .brk e1 := by show (a e).seq b = _; rw [h]; rfl
theorem mIf_t (h : i e = .ok (.bl true) e1) : mIf i a b e = a e1 := by unfold mIf; rw [h]
theorem mIf_f (h : i e = .ok (.bl false) e1) : mIf i a b e = b e1 := by unfold mIf; rw [h]
theorem if_t (h : p e = .ok (.bl true)) : mIf (iP p) a b e = a e := mIf_t (iP_ok h)
theorem if_f (h : p e = .ok (.bl false)) : mIf (iP p) a b e = b e := mIf_f (iP_ok h)
theorem mRet_ok (h : i e = .ok t e1) : mRet i e = .ret t e1 := by unfold mRet; rw [h]
theorem mDrop_ok (h : i e = .ok t e1) : mDrop i e = .next e1 := by unfold mDrop; rw [h]
theorem mAsg_ok (h : i e = .ok t e1) (hp : g.put t e1 = some e2) : mAsg g i e = .next e2 := by unfold mAsg; rw [h]; dsimp only; rw [hp]
theorem whGo_t (hc : p e = .ok (.bl true)) (hb : a e = .next e1) : whGo p a fg (n + 1) e = whGo p a fg n (forget fg e1) := by
  rw [whGo, hc]; dsimp only; rw [hb]
theorem whGo_r (hc : p e = .ok (.bl true)) (hb : a e = .ret t e1) : whGo p a fg (n + 1) e = .ret t e1 := by
  rw [whGo, hc]; dsimp only; rw [hb]
theorem whGo_f (hc : p e = .ok (.bl false)) : whGo p a fg (n + 1) e = .next e := by rw [whGo, hc]
theorem forGo_nil : forGo g a fg [] e = .next e := rfl
theorem forGo_n (hp : g.put t e = some e1) (hb : a e1 = .next e2) : forGo g a fg (t :: ts) e = forGo g a fg ts (forget fg e2) := by
  rw [forGo, hp]; dsimp only; rw [hb]
theorem forGo_r (hp : g.put t e = some e1) (hb : a e1 = .ret u e2) : forGo g a fg (t :: ts) e = .ret u e2 := by
  rw [forGo, hp]; dsimp only; rw [hb]
theorem mFor_ok {s : A} (hs : s e = .ok ts) : mFor s g a fg e = forGo g a fg ts e := by unfold mFor; rw [hs]
theorem iLc_ok {s : A} {vs : List Nat} (hs : s e = .ok ts) (hg : iLcGo g i ts (wipeE e vs) = some (us, e1)) : iLc s g i vs e = .ok (.lst .own us) e1 := by
  unfold iLc; rw [hs]; dsimp only; rw [hg]
theorem iLcGo_cons (hp : g.put t e = some e1) (he : i e1 = .ok u e2) (hf : u.fz = true) (hr : iLcGo g i ts (mergeE e e2) = some (us, e3)) : iLcGo g i (t :: ts) e = some (u :: us, e3) := by
  rw [iLcGo, hp]; dsimp only; rw [he]; dsimp only; rw [if_pos hf, hr]
theorem pLc_ok {s : A} {c : P} {vs : List Nat} (hs : s (ro e) = .ok ts) (hg : lcGo g c p (wipeE (ro e) vs) ts = .ok us) : pLc s g c p vs e = .ok (.lst .own us) := by
  unfold pLc; rw [hs]; dsimp only; rw [hg]
theorem lcGo_t {c : P} (hp : g.put t e = some e1) (hc : c e1 = .ok (.bl true)) (he : p e1 = .ok u) (hs : u.solid = true) (hr : lcGo g c p e ts = .ok us) : lcGo g c p e (t :: ts) = .ok (u :: us) := by
  rw [lcGo, hp]; dsimp only; rw [hc]; dsimp only; rw [he]; dsimp only; rw [if_pos hs, hr]
theorem lcGo_f {c : P} (hp : g.put t e = some e1) (hc : c e1 = .ok (.bl false)) : lcGo g c p e (t :: ts) = lcGo g c p e ts := by
  rw [lcGo, hp]; dsimp only; rw [hc]
theorem defM_ret (hl : ts.length = n) (hb : a (ts.map some ++ List.replicate k none) = .ret t e) (ho : outs e io = some os) : defM n k io a ts = .ret t os := by
  unfold defM; rw [if_pos hl, hb]; dsimp only; rw [ho]
theorem defM_next (hl : ts.length = n) (hb : a (ts.map some ++ List.replicate k none) = .next e) (ho : outs e io = some os) : defM n k io a ts = .ret .non os := by
  unfold defM; rw [if_pos hl, hb]; dsimp only; rw [ho]
theorem defM_exc (hl : ts.length = n) (hb : a (ts.map some ++ List.replicate k none) = .exc x e) (ho : outs e io = some os) : defM n k io a ts = .exc x os := by
  unfold defM; rw [if_pos hl, hb]; dsimp only; rw [ho]
end
end Cd

namespace Cd
set_option maxRecDepth 100000
theorem between_eq (a l h : Int) : m_is_between [.int a, .int l, .int h] = .ret (.bl (decide (l ≤ a) && decide (a ≤ h))) [] := by
  by_cases h1 : l ≤ a <;> by_cases h2 : a ≤ h <;> simp [m_is_between, m_is_whole, h1, h2, defM, mSeq, mNext, mBrk, mCont, mRet, mRetN, mDrop, mRaise, mIf, mAsg, Tg.put, Tg.puts, SRes.seq, iP, iMv, iFr, iFz, i1, i2, iAnd, iOr, ERes.on, ERes.test, ERes.bind, pVar, pC, p1, p2, pA, aNil, aCons, pIf, pAnd, pOr, pFz, pChain, pDK, pDT, pGet1, pGet2, pMth, pYes, gCall, gFld, fldAt, fldPut, PRes.test, PRes.bind, LRes.bind, ofO, gAdd, gSub, gMul, gMod, gDiv, gPow, gNeg, gInt2, gLt, gLe, gGt, gGe, gIsN, gNotN, gIs2, gIsNot2, gEq, gNe, gNot, shal, eqB, gIsi, tyB, subTy, gLen1, gLen, gMin2, gMax2, gInt1, gIx, gGet1, gGet2, getD?, isDic, gIn, gNotIn, inB, dTup, dLst, T.solid, T.still, T.nt, T.fz, T.frz1, T.lend, T.back, T.view, T.of, T.fl1, T.flag, Fl.view, Fl.under, Fl.lend, Fl.back, outs, outsAt, isIns, isInsP, aConsI, iUpd, lvVar, lvFld, subAt, T.sub, T.putAt, putPath, fldIx, uAppend, uPop, uClear, uReverse, line, lineN, storeAt, SRes.ofE, mSetIx, mFld, setF, setAny, setLst, setDic]
def eT : Option Int → T | none => .non | some p => .int p
def trT (f g : Fl) (n : Int) (S : List (Option Int)) (ks : List Int) (ws : List T) : T := .ins f 0 [0, 1, 2] [.lst .frz (S.map eT), .int n, .dK g ks ws]
/-- what comes out of a contest, and what is found due -/
def comes (β : Int → Option Int) : Option Int → Option Int → Option Int × List (Int × Int)
  | none, o => (o, [])
  | o, none => (o, [])
  | some a, some b => if a = -1 ∨ b = -1 then (some (-1), []) else if β a = some b then (some b, []) else if β b = some a then (some a, []) else (some (-1), [(a, b)])
def pT (c : Int × Int) : T := .tup .frz [.int c.1, .int c.2]
def Lk (ks : List Int) (ws : List T) (β : Int → Option Int) : Prop := ∀ p, look ks ws p = (β p).map T.int
theorem comes_eq {n : Int} {S : List (Option Int)} {ks : List Int} {ws : List T} {β : Int → Option Int} (h : Lk ks ws β) (a b : Option Int) (fs : List T) (hl : fs.length < line) :
    m_Tree_comes_out [trT .bor .own n S ks ws, eT a, eT b, .lst .own fs] = .ret (eT (comes β a b).1) [.lst .own (fs ++ (comes β a b).2.map pT)] := by
  have hl' : fs.length < 16777216 := hl
  cases a with
  | none => cases b <;> simp [m_Tree_comes_out, eT, trT, comes, defM, mSeq, mNext, mBrk, mCont, mRet, mRetN, mDrop, mRaise, mIf, mAsg, Tg.put, Tg.puts, SRes.seq, iP, iMv, iFr, iFz, i1, i2, iAnd, iOr, ERes.on, ERes.test, ERes.bind, pVar, pC, p1, p2, pA, aNil, aCons, pIf, pAnd, pOr, pFz, pChain, pDK, pDT, pGet1, pGet2, pMth, pYes, gCall, gFld, fldAt, fldPut, PRes.test, PRes.bind, LRes.bind, ofO, gAdd, gSub, gMul, gMod, gDiv, gPow, gNeg, gInt2, gLt, gLe, gGt, gGe, gIsN, gNotN, gIs2, gIsNot2, gEq, gNe, gNot, shal, eqB, gIsi, tyB, subTy, gLen1, gLen, gMin2, gMax2, gInt1, gIx, gGet1, gGet2, getD?, isDic, gIn, gNotIn, inB, dTup, dLst, T.solid, T.still, T.nt, T.fz, T.frz1, T.lend, T.back, T.view, T.of, T.fl1, T.flag, Fl.view, Fl.under, Fl.lend, Fl.back, outs, outsAt, isIns, isInsP, aConsI, iUpd, lvVar, lvFld, subAt, T.sub, T.putAt, putPath, fldIx, uAppend, uPop, uClear, uReverse, line, lineN, storeAt, SRes.ofE, mSetIx, mFld, setF, setAny, setLst, setDic]
  | some a =>
    cases b with
    | none => simp [m_Tree_comes_out, eT, trT, comes, defM, mSeq, mNext, mBrk, mCont, mRet, mRetN, mDrop, mRaise, mIf, mAsg, Tg.put, Tg.puts, SRes.seq, iP, iMv, iFr, iFz, i1, i2, iAnd, iOr, ERes.on, ERes.test, ERes.bind, pVar, pC, p1, p2, pA, aNil, aCons, pIf, pAnd, pOr, pFz, pChain, pDK, pDT, pGet1, pGet2, pMth, pYes, gCall, gFld, fldAt, fldPut, PRes.test, PRes.bind, LRes.bind, ofO, gAdd, gSub, gMul, gMod, gDiv, gPow, gNeg, gInt2, gLt, gLe, gGt, gGe, gIsN, gNotN, gIs2, gIsNot2, gEq, gNe, gNot, shal, eqB, gIsi, tyB, subTy, gLen1, gLen, gMin2, gMax2, gInt1, gIx, gGet1, gGet2, getD?, isDic, gIn, gNotIn, inB, dTup, dLst, T.solid, T.still, T.nt, T.fz, T.frz1, T.lend, T.back, T.view, T.of, T.fl1, T.flag, Fl.view, Fl.under, Fl.lend, Fl.back, outs, outsAt, isIns, isInsP, aConsI, iUpd, lvVar, lvFld, subAt, T.sub, T.putAt, putPath, fldIx, uAppend, uPop, uClear, uReverse, line, lineN, storeAt, SRes.ofE, mSetIx, mFld, setF, setAny, setLst, setDic]
    | some b =>
      by_cases h1 : a = -1
      · simp [m_Tree_comes_out, eT, trT, comes, h1, defM, mSeq, mNext, mBrk, mCont, mRet, mRetN, mDrop, mRaise, mIf, mAsg, Tg.put, Tg.puts, SRes.seq, iP, iMv, iFr, iFz, i1, i2, iAnd, iOr, ERes.on, ERes.test, ERes.bind, pVar, pC, p1, p2, pA, aNil, aCons, pIf, pAnd, pOr, pFz, pChain, pDK, pDT, pGet1, pGet2, pMth, pYes, gCall, gFld, fldAt, fldPut, PRes.test, PRes.bind, LRes.bind, ofO, gAdd, gSub, gMul, gMod, gDiv, gPow, gNeg, gInt2, gLt, gLe, gGt, gGe, gIsN, gNotN, gIs2, gIsNot2, gEq, gNe, gNot, shal, eqB, gIsi, tyB, subTy, gLen1, gLen, gMin2, gMax2, gInt1, gIx, gGet1, gGet2, getD?, isDic, gIn, gNotIn, inB, dTup, dLst, T.solid, T.still, T.nt, T.fz, T.frz1, T.lend, T.back, T.view, T.of, T.fl1, T.flag, Fl.view, Fl.under, Fl.lend, Fl.back, outs, outsAt, isIns, isInsP, aConsI, iUpd, lvVar, lvFld, subAt, T.sub, T.putAt, putPath, fldIx, uAppend, uPop, uClear, uReverse, line, lineN, storeAt, SRes.ofE, mSetIx, mFld, setF, setAny, setLst, setDic]
      · have h1' : (a == -1) = false := by simpa using h1
        by_cases h2 : b = -1
        · simp [m_Tree_comes_out, eT, trT, comes, h1, h1', h2, defM, mSeq, mNext, mBrk, mCont, mRet, mRetN, mDrop, mRaise, mIf, mAsg, Tg.put, Tg.puts, SRes.seq, iP, iMv, iFr, iFz, i1, i2, iAnd, iOr, ERes.on, ERes.test, ERes.bind, pVar, pC, p1, p2, pA, aNil, aCons, pIf, pAnd, pOr, pFz, pChain, pDK, pDT, pGet1, pGet2, pMth, pYes, gCall, gFld, fldAt, fldPut, PRes.test, PRes.bind, LRes.bind, ofO, gAdd, gSub, gMul, gMod, gDiv, gPow, gNeg, gInt2, gLt, gLe, gGt, gGe, gIsN, gNotN, gIs2, gIsNot2, gEq, gNe, gNot, shal, eqB, gIsi, tyB, subTy, gLen1, gLen, gMin2, gMax2, gInt1, gIx, gGet1, gGet2, getD?, isDic, gIn, gNotIn, inB, dTup, dLst, T.solid, T.still, T.nt, T.fz, T.frz1, T.lend, T.back, T.view, T.of, T.fl1, T.flag, Fl.view, Fl.under, Fl.lend, Fl.back, outs, outsAt, isIns, isInsP, aConsI, iUpd, lvVar, lvFld, subAt, T.sub, T.putAt, putPath, fldIx, uAppend, uPop, uClear, uReverse, line, lineN, storeAt, SRes.ofE, mSetIx, mFld, setF, setAny, setLst, setDic]
        · have h2' : (b == -1) = false := by simpa using h2
          have e1 := h a
          have e2 := h b
          cases q1 : β a with
          | none =>
            rw [q1] at e1
            cases q2 : β b with
            | none => rw [q2] at e2; simp [m_Tree_comes_out, eT, trT, comes, h1, h1', h2, h2', e1, e2, q1, q2, pT, hl', defM, mSeq, mNext, mBrk, mCont, mRet, mRetN, mDrop, mRaise, mIf, mAsg, Tg.put, Tg.puts, SRes.seq, iP, iMv, iFr, iFz, i1, i2, iAnd, iOr, ERes.on, ERes.test, ERes.bind, pVar, pC, p1, p2, pA, aNil, aCons, pIf, pAnd, pOr, pFz, pChain, pDK, pDT, pGet1, pGet2, pMth, pYes, gCall, gFld, fldAt, fldPut, PRes.test, PRes.bind, LRes.bind, ofO, gAdd, gSub, gMul, gMod, gDiv, gPow, gNeg, gInt2, gLt, gLe, gGt, gGe, gIsN, gNotN, gIs2, gIsNot2, gEq, gNe, gNot, shal, eqB, gIsi, tyB, subTy, gLen1, gLen, gMin2, gMax2, gInt1, gIx, gGet1, gGet2, getD?, isDic, gIn, gNotIn, inB, dTup, dLst, T.solid, T.still, T.nt, T.fz, T.frz1, T.lend, T.back, T.view, T.of, T.fl1, T.flag, Fl.view, Fl.under, Fl.lend, Fl.back, outs, outsAt, isIns, isInsP, aConsI, iUpd, lvVar, lvFld, subAt, T.sub, T.putAt, putPath, fldIx, uAppend, uPop, uClear, uReverse, line, lineN, storeAt, SRes.ofE, mSetIx, mFld, setF, setAny, setLst, setDic]
            | some y =>
              rw [q2] at e2
              by_cases h3 : y = a
              · simp [m_Tree_comes_out, eT, trT, comes, h1, h1', h2, h2', e1, e2, q1, q2, pT, hl', h3, defM, mSeq, mNext, mBrk, mCont, mRet, mRetN, mDrop, mRaise, mIf, mAsg, Tg.put, Tg.puts, SRes.seq, iP, iMv, iFr, iFz, i1, i2, iAnd, iOr, ERes.on, ERes.test, ERes.bind, pVar, pC, p1, p2, pA, aNil, aCons, pIf, pAnd, pOr, pFz, pChain, pDK, pDT, pGet1, pGet2, pMth, pYes, gCall, gFld, fldAt, fldPut, PRes.test, PRes.bind, LRes.bind, ofO, gAdd, gSub, gMul, gMod, gDiv, gPow, gNeg, gInt2, gLt, gLe, gGt, gGe, gIsN, gNotN, gIs2, gIsNot2, gEq, gNe, gNot, shal, eqB, gIsi, tyB, subTy, gLen1, gLen, gMin2, gMax2, gInt1, gIx, gGet1, gGet2, getD?, isDic, gIn, gNotIn, inB, dTup, dLst, T.solid, T.still, T.nt, T.fz, T.frz1, T.lend, T.back, T.view, T.of, T.fl1, T.flag, Fl.view, Fl.under, Fl.lend, Fl.back, outs, outsAt, isIns, isInsP, aConsI, iUpd, lvVar, lvFld, subAt, T.sub, T.putAt, putPath, fldIx, uAppend, uPop, uClear, uReverse, line, lineN, storeAt, SRes.ofE, mSetIx, mFld, setF, setAny, setLst, setDic]
              · have h3' : (y == a) = false := by simpa using h3
                simp [m_Tree_comes_out, eT, trT, comes, h1, h1', h2, h2', e1, e2, q1, q2, pT, hl', h3, h3', defM, mSeq, mNext, mBrk, mCont, mRet, mRetN, mDrop, mRaise, mIf, mAsg, Tg.put, Tg.puts, SRes.seq, iP, iMv, iFr, iFz, i1, i2, iAnd, iOr, ERes.on, ERes.test, ERes.bind, pVar, pC, p1, p2, pA, aNil, aCons, pIf, pAnd, pOr, pFz, pChain, pDK, pDT, pGet1, pGet2, pMth, pYes, gCall, gFld, fldAt, fldPut, PRes.test, PRes.bind, LRes.bind, ofO, gAdd, gSub, gMul, gMod, gDiv, gPow, gNeg, gInt2, gLt, gLe, gGt, gGe, gIsN, gNotN, gIs2, gIsNot2, gEq, gNe, gNot, shal, eqB, gIsi, tyB, subTy, gLen1, gLen, gMin2, gMax2, gInt1, gIx, gGet1, gGet2, getD?, isDic, gIn, gNotIn, inB, dTup, dLst, T.solid, T.still, T.nt, T.fz, T.frz1, T.lend, T.back, T.view, T.of, T.fl1, T.flag, Fl.view, Fl.under, Fl.lend, Fl.back, outs, outsAt, isIns, isInsP, aConsI, iUpd, lvVar, lvFld, subAt, T.sub, T.putAt, putPath, fldIx, uAppend, uPop, uClear, uReverse, line, lineN, storeAt, SRes.ofE, mSetIx, mFld, setF, setAny, setLst, setDic]
          | some x =>
            rw [q1] at e1
            by_cases h4 : x = b
            · simp [m_Tree_comes_out, eT, trT, comes, h1, h1', h2, h2', e1, q1, h4, defM, mSeq, mNext, mBrk, mCont, mRet, mRetN, mDrop, mRaise, mIf, mAsg, Tg.put, Tg.puts, SRes.seq, iP, iMv, iFr, iFz, i1, i2, iAnd, iOr, ERes.on, ERes.test, ERes.bind, pVar, pC, p1, p2, pA, aNil, aCons, pIf, pAnd, pOr, pFz, pChain, pDK, pDT, pGet1, pGet2, pMth, pYes, gCall, gFld, fldAt, fldPut, PRes.test, PRes.bind, LRes.bind, ofO, gAdd, gSub, gMul, gMod, gDiv, gPow, gNeg, gInt2, gLt, gLe, gGt, gGe, gIsN, gNotN, gIs2, gIsNot2, gEq, gNe, gNot, shal, eqB, gIsi, tyB, subTy, gLen1, gLen, gMin2, gMax2, gInt1, gIx, gGet1, gGet2, getD?, isDic, gIn, gNotIn, inB, dTup, dLst, T.solid, T.still, T.nt, T.fz, T.frz1, T.lend, T.back, T.view, T.of, T.fl1, T.flag, Fl.view, Fl.under, Fl.lend, Fl.back, outs, outsAt, isIns, isInsP, aConsI, iUpd, lvVar, lvFld, subAt, T.sub, T.putAt, putPath, fldIx, uAppend, uPop, uClear, uReverse, line, lineN, storeAt, SRes.ofE, mSetIx, mFld, setF, setAny, setLst, setDic]
            · have h4' : (x == b) = false := by simpa using h4
              cases q2 : β b with
              | none => rw [q2] at e2; simp [m_Tree_comes_out, eT, trT, comes, h1, h1', h2, h2', e1, e2, q1, q2, pT, hl', h4, h4', defM, mSeq, mNext, mBrk, mCont, mRet, mRetN, mDrop, mRaise, mIf, mAsg, Tg.put, Tg.puts, SRes.seq, iP, iMv, iFr, iFz, i1, i2, iAnd, iOr, ERes.on, ERes.test, ERes.bind, pVar, pC, p1, p2, pA, aNil, aCons, pIf, pAnd, pOr, pFz, pChain, pDK, pDT, pGet1, pGet2, pMth, pYes, gCall, gFld, fldAt, fldPut, PRes.test, PRes.bind, LRes.bind, ofO, gAdd, gSub, gMul, gMod, gDiv, gPow, gNeg, gInt2, gLt, gLe, gGt, gGe, gIsN, gNotN, gIs2, gIsNot2, gEq, gNe, gNot, shal, eqB, gIsi, tyB, subTy, gLen1, gLen, gMin2, gMax2, gInt1, gIx, gGet1, gGet2, getD?, isDic, gIn, gNotIn, inB, dTup, dLst, T.solid, T.still, T.nt, T.fz, T.frz1, T.lend, T.back, T.view, T.of, T.fl1, T.flag, Fl.view, Fl.under, Fl.lend, Fl.back, outs, outsAt, isIns, isInsP, aConsI, iUpd, lvVar, lvFld, subAt, T.sub, T.putAt, putPath, fldIx, uAppend, uPop, uClear, uReverse, line, lineN, storeAt, SRes.ofE, mSetIx, mFld, setF, setAny, setLst, setDic]
              | some y =>
                rw [q2] at e2
                by_cases h3 : y = a
                · simp [m_Tree_comes_out, eT, trT, comes, h1, h1', h2, h2', e1, e2, q1, q2, pT, hl', h3, h4, h4', defM, mSeq, mNext, mBrk, mCont, mRet, mRetN, mDrop, mRaise, mIf, mAsg, Tg.put, Tg.puts, SRes.seq, iP, iMv, iFr, iFz, i1, i2, iAnd, iOr, ERes.on, ERes.test, ERes.bind, pVar, pC, p1, p2, pA, aNil, aCons, pIf, pAnd, pOr, pFz, pChain, pDK, pDT, pGet1, pGet2, pMth, pYes, gCall, gFld, fldAt, fldPut, PRes.test, PRes.bind, LRes.bind, ofO, gAdd, gSub, gMul, gMod, gDiv, gPow, gNeg, gInt2, gLt, gLe, gGt, gGe, gIsN, gNotN, gIs2, gIsNot2, gEq, gNe, gNot, shal, eqB, gIsi, tyB, subTy, gLen1, gLen, gMin2, gMax2, gInt1, gIx, gGet1, gGet2, getD?, isDic, gIn, gNotIn, inB, dTup, dLst, T.solid, T.still, T.nt, T.fz, T.frz1, T.lend, T.back, T.view, T.of, T.fl1, T.flag, Fl.view, Fl.under, Fl.lend, Fl.back, outs, outsAt, isIns, isInsP, aConsI, iUpd, lvVar, lvFld, subAt, T.sub, T.putAt, putPath, fldIx, uAppend, uPop, uClear, uReverse, line, lineN, storeAt, SRes.ofE, mSetIx, mFld, setF, setAny, setLst, setDic]
                · have h3' : (y == a) = false := by simpa using h3
                  simp [m_Tree_comes_out, eT, trT, comes, h1, h1', h2, h2', e1, e2, q1, q2, pT, hl', h3, h3', h4, h4', defM, mSeq, mNext, mBrk, mCont, mRet, mRetN, mDrop, mRaise, mIf, mAsg, Tg.put, Tg.puts, SRes.seq, iP, iMv, iFr, iFz, i1, i2, iAnd, iOr, ERes.on, ERes.test, ERes.bind, pVar, pC, p1, p2, pA, aNil, aCons, pIf, pAnd, pOr, pFz, pChain, pDK, pDT, pGet1, pGet2, pMth, pYes, gCall, gFld, fldAt, fldPut, PRes.test, PRes.bind, LRes.bind, ofO, gAdd, gSub, gMul, gMod, gDiv, gPow, gNeg, gInt2, gLt, gLe, gGt, gGe, gIsN, gNotN, gIs2, gIsNot2, gEq, gNe, gNot, shal, eqB, gIsi, tyB, subTy, gLen1, gLen, gMin2, gMax2, gInt1, gIx, gGet1, gGet2, getD?, isDic, gIn, gNotIn, inB, dTup, dLst, T.solid, T.still, T.nt, T.fz, T.frz1, T.lend, T.back, T.view, T.of, T.fl1, T.flag, Fl.view, Fl.under, Fl.lend, Fl.back, outs, outsAt, isIns, isInsP, aConsI, iUpd, lvVar, lvFld, subAt, T.sub, T.putAt, putPath, fldIx, uAppend, uPop, uClear, uReverse, line, lineN, storeAt, SRes.ofE, mSetIx, mFld, setF, setAny, setLst, setDic]
theorem eT_of {f : Fl} (a : Option Int) : T.of f (eT a) = eT a := by cases a <;> rfl
theorem eT_still (a : Option Int) : (eT a).still = true := by cases a <;> rfl
theorem eT_lend (a : Option Int) : (eT a).lend = eT a := by cases a <;> rfl
theorem eT_back (a : Option Int) : (eT a).back = eT a := by cases a <;> rfl
theorem eT_fz (a : Option Int) : (eT a).fz = true := by cases a <;> rfl
theorem gIx_row {R : List (Option Int)} {j : Nat} {a : Option Int} (h : R[j]? = some a) : gIx (.lst .frz (R.map eT)) (.int (j : Int)) = .ok (eT a) := by
  have hj : j < (R.map eT).length := by rw [List.length_map]; exact (List.getElem?_eq_some_iff.mp h).1
  show (match ixOf (R.map eT).length (j : Int) with | some j => ofO (((R.map eT)[j]?).map (T.of .frz)) | none => .bad) = _
  rw [ixOf_nat hj]
  show ofO (((R.map eT)[j]?).map (T.of .frz)) = _
  rw [List.getElem?_map, h]
  show PRes.ok (T.of .frz (eT a)) = _
  rw [eT_of]
abbrev eltD : I := iMeth 0 3 (pVar 0) m_Tree_comes_out [3] [.val (iP (pVar 0)), .val (iP (p2 gIx (pVar 2) (pVar 3))), .val (iP (p2 gIx (pVar 2) (p2 gAdd (pVar 3) (pC (.int 1))))), .own 1]
theorem elt_eq {n : Int} {S R : List (Option Int)} {ks : List Int} {ws : List T} {β : Int → Option Int} (h : Lk ks ws β) {j : Nat} {a b : Option Int} {fs : List T} (hl : fs.length < line) (ha : R[j]? = some a) (hb : R[j + 1]? = some b) :
    eltD [some (trT .bor .own n S ks ws), some (.lst .own fs), some (.lst .frz (R.map eT)), some (.int j)] =
      .ok (eT (comes β a b).1) [some (trT .bor .own n S ks ws), some (.lst .own (fs ++ (comes β a b).2.map pT)), some (.lst .frz (R.map eT)), some (.int j)] := by
  have g1 := gIx_row ha
  have g2 := gIx_row hb
  have g2' : gIx (.lst .frz (R.map eT)) (.int ((j : Int) + 1)) = .ok (eT b) := by rw [← g2]; rfl
  have vals : iVals [.val (iP (pVar 0)), .val (iP (p2 gIx (pVar 2) (pVar 3))), .val (iP (p2 gIx (pVar 2) (p2 gAdd (pVar 3) (pC (.int 1))))), .own 1] [some (trT .bor .own n S ks ws), some (.lst .own fs), some (.lst .frz (R.map eT)), some (.int j)] =
      .ok [some (trT .bor .own n S ks ws), some (eT a), some (eT b), none] [some (trT .bor .own n S ks ws), some (.lst .own fs), some (.lst .frz (R.map eT)), some (.int j)] := by
    have v1 : iP (pVar 0) [some (trT .bor .own n S ks ws), some (.lst .own fs), some (.lst .frz (R.map eT)), some (.int j)] = .ok (trT .bor .own n S ks ws) [some (trT .bor .own n S ks ws), some (.lst .own fs), some (.lst .frz (R.map eT)), some (.int j)] := rfl
    have v2 : iP (p2 gIx (pVar 2) (pVar 3)) [some (trT .bor .own n S ks ws), some (.lst .own fs), some (.lst .frz (R.map eT)), some (.int j)] = .ok (eT a) [some (trT .bor .own n S ks ws), some (.lst .own fs), some (.lst .frz (R.map eT)), some (.int j)] := by
      show (match gIx (.lst .frz (R.map eT)) (.int (j : Int)) with | .ok t => ERes.ok t _ | .exc x => .exc x _ | .bad => .bad) = _
      rw [g1]
    have v3 : iP (p2 gIx (pVar 2) (p2 gAdd (pVar 3) (pC (.int 1)))) [some (trT .bor .own n S ks ws), some (.lst .own fs), some (.lst .frz (R.map eT)), some (.int j)] = .ok (eT b) [some (trT .bor .own n S ks ws), some (.lst .own fs), some (.lst .frz (R.map eT)), some (.int j)] := by
      show (match gIx (.lst .frz (R.map eT)) (.int ((j : Int) + 1)) with | .ok t => ERes.ok t _ | .exc x => .exc x _ | .bad => .bad) = _
      rw [g2']
    simp [iVals, v1, v2, v3, eT_still]
    rfl
  have hc := comes_eq h (n := n) (S := S) a b fs hl
  have hand : handed 0 [3] [trT .bor .own n S ks ws, eT a, eT b, .lst .own fs] = [trT .bor .own n S ks ws, eT a, eT b, .lst .own fs] := by
    simp [handed, eT_lend]
    rfl
  refine (iMeth_pos rfl).trans ?_
  refine (iCall_ok (ts := [trT .bor .own n S ks ws, eT a, eT b, .lst .own fs]) rfl vals rfl (by rw [hand]; exact hc)).trans ?_
  rw [eT_back]
  rfl
def rowP (β : Int → Option Int) : List (Option Int) → List (Option Int) × List (Int × Int)
  | a :: b :: r => ((comes β a b).1 :: (rowP β r).1, (comes β a b).2 ++ (rowP β r).2)
  | _ => ([], [])
theorem comes_len (β : Int → Option Int) (a b : Option Int) : (comes β a b).2.length ≤ 1 := by
  cases a with
  | none => simp [comes]
  | some a =>
    cases b with
    | none => simp [comes]
    | some b =>
      show (if a = -1 ∨ b = -1 then (some (-1), []) else if β a = some b then (some b, []) else if β b = some a then (some a, []) else (some (-1), [(a, b)])).2.length ≤ 1
      split
      · simp
      · split
        · simp
        · split <;> simp
theorem rowP_len (β : Int → Option Int) : ∀ {m : Nat} {R : List (Option Int)}, R.length = 2 * m → (rowP β R).1.length = m ∧ (rowP β R).2.length ≤ m
  | 0, R, h => by
    have : R = [] := List.eq_nil_of_length_eq_zero (by omega)
    subst this
    exact ⟨rfl, Nat.le_refl _⟩
  | m + 1, a :: b :: r, h => by
    obtain ⟨h1, h2⟩ := rowP_len β (m := m) (R := r) (by simp at h; omega)
    have := comes_len β a b
    refine ⟨by simp [rowP, h1], ?_⟩
    simp only [rowP, List.length_append]
    omega
  | m + 1, [a], h => by simp at h; omega
  | m + 1, [], h => by simp at h
theorem row_go {n : Int} {S R : List (Option Int)} {ks : List Int} {ws : List T} {β : Int → Option Int} (h : Lk ks ws β) : ∀ (m i : Nat) (fs : List T), R.length = 2 * (i + m) → fs.length + m < line →
    iLcGo (.nm 3) eltD ((List.range' i m).map fun i => .int ((2 * i : Nat) : Int)) [some (trT .bor .own n S ks ws), some (.lst .own fs), some (.lst .frz (R.map eT)), none] =
      some ((rowP β (R.drop (2 * i))).1.map eT, [some (trT .bor .own n S ks ws), some (.lst .own (fs ++ (rowP β (R.drop (2 * i))).2.map pT)), some (.lst .frz (R.map eT)), none])
  | 0, i, fs, hl, _ => by
    have : R.drop (2 * i) = [] := List.drop_eq_nil_of_le (by omega)
    rw [this]
    show some ([], _) = some ([], _)
    simp [rowP]
  | m + 1, i, fs, hl, hf => by
    have l1 : 2 * i < R.length := by omega
    have l2 : 2 * i + 1 < R.length := by omega
    have ed : R.drop (2 * i) = R[2 * i] :: R[2 * i + 1] :: R.drop (2 * (i + 1)) := by
      rw [List.drop_eq_getElem_cons l1, List.drop_eq_getElem_cons l2]; rfl
    have ee := elt_eq (n := n) (S := S) (R := R) h (j := 2 * i) (fs := fs) (by omega) (List.getElem?_eq_getElem l1) (List.getElem?_eq_getElem l2)
    have cl := comes_len β R[2 * i] R[2 * i + 1]
    have ih := row_go h m (i + 1) (fs ++ (comes β R[2 * i] R[2 * i + 1]).2.map pT) (by omega) (by rw [List.length_append, List.length_map]; omega) (n := n) (S := S) (R := R)
    rw [List.range'_succ, List.map_cons, ed]
    show (match eltD [some (trT .bor .own n S ks ws), some (.lst .own fs), some (.lst .frz (R.map eT)), some (.int ((2 * i : Nat) : Int))] with
      | .ok u e2 => if u.fz then (match iLcGo (.nm 3) eltD ((List.range' (i + 1) m).map fun i => .int ((2 * i : Nat) : Int)) (mergeE [some (trT .bor .own n S ks ws), some (.lst .own fs), some (.lst .frz (R.map eT)), none] e2) with | some (us, e3) => some (u :: us, e3) | none => none) else none
      | _ => none) = _
    rw [ee]
    dsimp only
    rw [if_pos (eT_fz _)]
    have em : mergeE [some (trT .bor .own n S ks ws), some (.lst .own fs), some (.lst .frz (R.map eT)), none] [some (trT .bor .own n S ks ws), some (.lst .own (fs ++ (comes β R[2 * i] R[2 * i + 1]).2.map pT)), some (.lst .frz (R.map eT)), some (.int ((2 * i : Nat) : Int))] =
      [some (trT .bor .own n S ks ws), some (.lst .own (fs ++ (comes β R[2 * i] R[2 * i + 1]).2.map pT)), some (.lst .frz (R.map eT)), none] := rfl
    rw [em, ih]
    simp [rowP, List.append_assoc]
abbrev dEnv (n : Int) (S : List (Option Int)) (ks : List Int) (ws : List T) (fs : List T) (R : List (Option Int)) : Env := [some (trT .bor .own n S ks ws), some (.lst .own fs), some (.lst .frz (R.map eT)), none]
abbrev dCond : P := p2 gGt (pA gLen1 (aCons (pVar 2) aNil)) (pC (.int 1))
abbrev dBody : M := mAsg (.nm 2) (iFz (iLc (sRngBy2 (pC (.int 0)) (pA gLen1 (aCons (pVar 2) aNil))) (.nm 3) eltD [3]))
theorem rng2_eq (m : Nat) : rng2T 0 m = (List.range' 0 m).map fun i => .int ((2 * i : Nat) : Int) := by
  unfold rng2T
  rw [List.range_eq_range']
  refine List.map_congr_left fun i _ => ?_
  congr 1
  omega
theorem eT_solid (R : List (Option Int)) : (R.map eT).all T.solid = true := by
  rw [List.all_map, List.all_eq_true]
  intro a _
  cases a <;> rfl
theorem eT_map_of {f : Fl} (R : List (Option Int)) : (R.map eT).map (T.of f) = R.map eT := by
  rw [List.map_map]
  exact List.map_congr_left fun a _ => eT_of a
theorem dBody_eq {n : Int} {S R : List (Option Int)} {ks : List Int} {ws : List T} {β : Int → Option Int} (h : Lk ks ws β) {m : Nat} {fs : List T} (hl : R.length = 2 * m) (hf : fs.length + m < line) (hm : m ≤ 1000) :
    dBody (dEnv n S ks ws fs R) = .next (dEnv n S ks ws (fs ++ (rowP β R).2.map pT) (rowP β R).1) := by
  have g := row_go (n := n) (S := S) h m 0 fs (R := R) (by omega) hf
  rw [Nat.mul_zero, List.drop_zero] at g
  have src : sRngBy2 (pC (.int 0)) (pA gLen1 (aCons (pVar 2) aNil)) (dEnv n S ks ws fs R) = .ok (rng2T 0 m) := by
    show (if inR 0 && inR (((R.map eT).length : Nat) : Int) && inR0 ((((R.map eT).length : Nat) : Int) - 0) then LRes.ok (rng2T 0 (((((R.map eT).length : Nat) : Int) - 0 + 1) / 2).toNat) else .bad) = _
    rw [List.length_map, hl]
    have e1 : inR 0 = true := by decide
    have e2 : inR ((2 * m : Nat) : Int) = true := by
      unfold inR; rw [Bool.and_eq_true, decide_eq_true_eq, decide_eq_true_eq]; omega
    have e3 : inR0 (((2 * m : Nat) : Int) - 0) = true := by
      unfold inR0; rw [decide_eq_true_eq]; omega
    rw [e1, e2, e3, if_pos (by rfl), show ((((2 * m : Nat) : Int) - 0 + 1) / 2).toNat = m by omega]
  refine mAsg_ok (iFz_ok (iLc_ok src (us := (rowP β R).1.map eT) (e1 := [some (trT .bor .own n S ks ws), some (.lst .own (fs ++ (rowP β R).2.map pT)), some (.lst .frz (R.map eT)), none]) ?_) (u := .lst .frz ((rowP β R).1.map eT)) rfl) rfl
  rw [rng2_eq]
  exact g
/-- the contests found, row after row; what the last row holds -/
def lev (β : Int → Option Int) : Nat → List (Option Int) → List (Int × Int)
  | 0, _ => []
  | k + 1, R => (rowP β R).2 ++ lev β k (rowP β R).1
def last (β : Int → Option Int) : Nat → List (Option Int) → List (Option Int)
  | 0, R => R
  | k + 1, R => last β k (rowP β R).1
theorem lev_len (β : Int → Option Int) : ∀ {k : Nat} {R : List (Option Int)}, R.length = 2 ^ k → (lev β k R).length < 2 ^ k
  | 0, R, h => by simp [lev]
  | k + 1, R, h => by
    obtain ⟨h1, h2⟩ := rowP_len β (m := 2 ^ k) (R := R) (by rw [h, Nat.pow_succ]; omega)
    have := lev_len β (k := k) h1
    simp only [lev, List.length_append]
    rw [Nat.pow_succ]; omega
theorem dCond_eq {n : Int} {S R : List (Option Int)} {ks : List Int} {ws : List T} {fs : List T} : dCond (dEnv n S ks ws fs R) = .ok (.bl (decide (1 < R.length))) := by
  show PRes.ok (T.bl (decide ((1 : Int) < (((R.map eT).length : Nat) : Int)))) = _
  rw [List.length_map]
  congr 2
  exact decide_eq_decide.mpr (by omega)
theorem due_go {n : Int} {S : List (Option Int)} {ks : List Int} {ws : List T} {β : Int → Option Int} (h : Lk ks ws β) : ∀ (k : Nat) (R : List (Option Int)) (fs : List T) (fuel : Nat), R.length = 2 ^ k → k ≤ 9 → k < fuel → fs.length + 2 ^ k < line →
    whGo dCond dBody [] fuel (dEnv n S ks ws fs R) = .next (dEnv n S ks ws (fs ++ (lev β k R).map pT) (last β k R))
  | 0, R, fs, fuel + 1, hl, _, _, _ => by
    rw [whGo_f (by rw [dCond_eq, hl]; rfl)]
    simp [lev, last]
  | k + 1, R, fs, fuel + 1, hl, hk, hfu, hb => by
    have hl2 : R.length = 2 * 2 ^ k := by rw [hl, Nat.pow_succ]; omega
    have pk : 2 ^ k ≤ 2 ^ 9 := Nat.pow_le_pow_right (by decide) (by omega)
    have p1 : 1 ≤ 2 ^ k := Nat.one_le_two_pow
    have pe : 2 ^ (k + 1) = 2 * 2 ^ k := by rw [Nat.pow_succ]; omega
    obtain ⟨r1, r2⟩ := rowP_len β (m := 2 ^ k) (R := R) hl2
    have bd := dBody_eq (n := n) (S := S) h (m := 2 ^ k) (fs := fs) (R := R) hl2 (by omega) (by omega)
    have ih := due_go h k (rowP β R).1 (fs ++ (rowP β R).2.map pT) fuel r1 (by omega) (by omega) (by rw [List.length_append, List.length_map]; omega) (n := n) (S := S)
    rw [whGo_t (by rw [dCond_eq, decide_eq_true (by omega)]) bd]
    refine ih.trans ?_
    simp [lev, last, List.append_assoc]
  | 0, _, _, 0, _, _, hf, _ => absurd hf (Nat.lt_irrefl _)
  | _ + 1, _, _, 0, _, _, hf, _ => absurd hf (Nat.not_lt_zero _)
theorem eqB_eT (a : Option Int) (p : Int) : eqB (eT a) (.int p) = (a == some p) := by
  cases a with
  | none => rfl
  | some a =>
    show (a == p) = (some a == some p)
    by_cases h : a = p
    · subst h; simp
    · have h1 : (a == p) = false := by simpa using h
      rw [h1]; simp [h]
theorem shal_eT {k : Nat} (a : Option Int) : shal k (eT a) = true := by cases a <;> cases k <;> rfl
theorem shal_row {k : Nat} (S : List (Option Int)) : (S.map eT).all (shal k) = true := by
  rw [List.all_map, List.all_eq_true]
  exact fun a _ => shal_eT a
theorem index_eq {S : List (Option Int)} {p : Int} {j : Nat} (h : S.findIdx? (fun a => a == some p) = some j) {f : Fl} : gIndex (.lst f (S.map eT)) [.int p] = .ok (.int j) := by
  have we : gIndex (.lst f (S.map eT)) [.int p] = if shal 19 (.int p) && (S.map eT).all (shal 19) then (match (S.map eT).findIdx? (fun t => eqB t (.int p)) with | some j => .ok (.int j) | none => .bad) else .bad := rfl
  rw [we, shal_row, if_pos (by rfl), List.findIdx?_map]
  have e : ((fun t => eqB t (T.int p)) ∘ eT) = fun a => a == some p := funext fun a => eqB_eT a p
  rw [e, h]
theorem slot_eq {n : Int} {S : List (Option Int)} {ks : List Int} {ws : List T} {c : Int × Int} {j : Nat} (h : S.findIdx? (fun a => a == some c.1) = some j) {f : Fl} (hf : f.lend = .bor) : gCall m_Tree_slot_of [trT f .own n S ks ws, pT c] = .ok (.int j) := by
  have hl : (trT f .own n S ks ws).lend = trT .bor .own n S ks ws := by
    show T.ins f.lend 0 _ _ = _
    rw [hf]; rfl
  have e : m_Tree_slot_of [trT .bor .own n S ks ws, pT c] = .ret (.int j) [] := by
    refine defM_ret (e := [some (trT .bor .own n S ks ws), some (pT c)]) rfl (mRet_ok (iP_ok (t := .int j) ?_)) rfl
    show gIndex (.lst .frz (S.map eT)) [.int c.1] = _
    exact index_eq h
  refine gCall_ok (t := .int j) (os := []) ?_
  show m_Tree_slot_of [(trT f .own n S ks ws).lend, (pT c).lend] = _
  rw [hl]; exact e
def idx (S : List (Option Int)) (p : Int) : Nat := (S.findIdx? (fun a => a == some p)).getD 0
theorem keys_eq {n : Int} {S : List (Option Int)} {ks : List Int} {ws : List T} {f : Fl} (hf : f.lend = .bor) : ∀ {cs : List (Int × Int)}, (∀ c ∈ cs, some c.1 ∈ S) → keysOf m_Tree_slot_of (trT f .own n S ks ws) (cs.map pT) = some (cs.map fun c => (idx S c.1 : Int))
  | [], _ => rfl
  | c :: cs, h => by
    have ih := keys_eq hf (n := n) (S := S) (ks := ks) (ws := ws) (cs := cs) fun c hc => h c (List.mem_cons_of_mem _ hc)
    obtain ⟨j, hj⟩ : ∃ j, S.findIdx? (fun a => a == some c.1) = some j := by
      cases q : S.findIdx? (fun a => a == some c.1) with
      | some j => exact ⟨j, rfl⟩
      | none =>
        rw [List.findIdx?_eq_none_iff] at q
        have := q _ (h c (List.mem_cons_self ..))
        simp at this
    show (match gCall m_Tree_slot_of [trT f .own n S ks ws, pT c] with
      | .ok (.int n) => (match keysOf m_Tree_slot_of (trT f .own _ S ks ws) (cs.map pT) with | some ns => some (n :: ns) | none => none)
      | _ => none) = _
    rw [slot_eq hj hf, ih]
    simp [idx, hj]
def sortC (S : List (Option Int)) (cs : List (Int × Int)) : List (Int × Int) := ((cs.zip (cs.map fun c => (idx S c.1 : Int))).mergeSort fun p q => decide (p.2 ≤ q.2)).map (·.1)
theorem sortT_eq (S : List (Option Int)) (cs : List (Int × Int)) : sortT (cs.map pT) (cs.map fun c => (idx S c.1 : Int)) = (sortC S cs).map pT := by
  unfold sortT sortC
  have e : (cs.map pT).zip (cs.map fun c => (idx S c.1 : Int)) = (cs.zip (cs.map fun c => (idx S c.1 : Int))).map fun z => (pT z.1, z.2) := by
    rw [List.zip_map_left]; rfl
  rw [e, ← List.map_mergeSort (r := fun p q : (Int × Int) × Int => decide (p.2 ≤ q.2)) (s := fun p q : T × Int => decide (p.2 ≤ q.2)) (f := fun z : (Int × Int) × Int => (pT z.1, z.2)) (fun a _ b _ => rfl), List.map_map, List.map_map]
  rfl
theorem pT_of {f : Fl} (cs : List (Int × Int)) : (cs.map pT).map (T.of f) = cs.map pT := by
  rw [List.map_map]
  exact List.map_congr_left fun c _ => rfl
theorem pT_solid (cs : List (Int × Int)) : (cs.map pT).all T.solid = true := by
  rw [List.all_map, List.all_eq_true]
  exact fun c _ => rfl
/-- what is due -/
theorem due_eq {n : Int} {S : List (Option Int)} {ks : List Int} {ws : List T} {β : Int → Option Int} (h : Lk ks ws β) {k : Nat} (hS : S.length = 2 ^ k) (hk : k ≤ 9) (hc : ∀ c ∈ lev β k S, some c.1 ∈ S) :
    m_Tree_due [trT .bor .own n S ks ws] = .ret (.lst .own ((sortC S (lev β k S)).map pT)) [] := by
  have pk : 2 ^ k ≤ 2 ^ 9 := Nat.pow_le_pow_right (by decide) hk
  have st2 : pA gList1 (aCons (p1 (gFld 0 0) (pVar 0)) aNil) [some (trT .bor .own n S ks ws), some (.lst .own []), none, none] = .ok (.lst .own (S.map eT)) := by
    show (if ((S.map eT).map (T.of .frz)).all T.solid then PRes.ok (.lst .own ((S.map eT).map (T.of .frz))) else .bad) = _
    rw [eT_map_of, if_pos (eT_solid S)]
  have fz : (T.lst .own (S.map eT)).frz1 = some (.lst .frz (S.map eT)) := rfl
  have go := due_go (n := n) (S := S) h k S [] FUEL hS hk (by unfold FUEL; omega) (by unfold line; simp; omega)
  refine defM_ret (e := dEnv n S ks ws ([] ++ (lev β k S).map pT) (last β k S)) rfl ?_ rfl
  refine (seq_next (mAsg_ok (iP_ok (t := .lst .own []) rfl) rfl)).trans ?_
  refine (seq_next (mAsg_ok (iP_ok (pFz_ok st2 fz)) rfl)).trans ?_
  refine (seq_next (e1 := dEnv n S ks ws ([] ++ (lev β k S).map pT) (last β k S)) go).trans ?_
  refine mRet_ok (iP_ok ?_)
  rw [List.nil_append]
  show (if isIns 0 5 (trT .bor .own n S ks ws) && (((lev β k S).map pT).map (T.of .tmp)).all T.solid then (match keysOf m_Tree_slot_of (trT .bor .own n S ks ws) (((lev β k S).map pT).map (T.of .tmp)) with
    | some ks => PRes.ok (.lst .own (sortT (((lev β k S).map pT).map (T.of .tmp)) ks))
    | none => .bad) else .bad) = _
  rw [pT_of, pT_solid, keys_eq rfl hc, if_pos (by rfl)]
  dsimp only
  rw [sortT_eq]
end Cd

set_option linter.all false
set_option maxRecDepth 100000
/-! A tree of contests as a thing of its own: who has come out, what is due, who has lost to whom. -/
namespace Cd
inductive G where
  | leaf (x : Option Int)
  | node (l r : G) (res : Option Bool)
deriving DecidableEq
namespace G
def out (a b : Option Int) (res : Option Bool) : Option (Option Int) := match a, b with
  | none, b => some b
  | a, none => some a
  | some a, some b => match res with | none => none | some false => some (some a) | some true => some (some b)
/-- who has come out: nobody yet, a bye, a player -/
def win : G → Option (Option Int)
  | leaf x => some x
  | node l r res => match win l, win r with
    | some a, some b => out a b res
    | _, _ => none
def ent (t : G) : Option Int := match t.win with | none => some (-1) | some x => x
def leaves : G → List (Option Int) | leaf x => [x] | node l r _ => l.leaves ++ r.leaves
def players (t : G) : List Int := t.leaves.filterMap id
def ownDue (a b : Option (Option Int)) (res : Option Bool) : List (Int × Int) := match a, b, res with
  | some (some a), some (some b), none => [(a, b)]
  | _, _, _ => []
def own : G → List (Int × Int) | leaf _ => [] | node l r res => ownDue l.win r.win res
def due : G → List (Int × Int) | leaf _ => [] | node l r res => ownDue l.win r.win res ++ (l.due ++ r.due)
def ownLoss (a b : Option (Option Int)) (res : Option Bool) : List (Int × Int) := match a, b, res with
  | some (some a), some (some b), some false => [(b, a)]
  | some (some a), some (some b), some true => [(a, b)]
  | _, _, _ => []
/-- (who lost, to whom) -/
def losses : G → List (Int × Int) | leaf _ => [] | node l r res => ownLoss l.win r.win res ++ (l.losses ++ r.losses)
/-- played where it could be -/
def WF : G → Prop | leaf _ => True | node l r res => l.WF ∧ r.WF ∧ (res ≠ none → ∃ a b, l.win = some (some a) ∧ r.win = some (some b))
def perf : Nat → G → Bool | 0, leaf _ => true | k + 1, node l r _ => perf k l && perf k r | _, _ => false
def play (a b : Int) (s : Bool) : G → G
  | leaf x => leaf x
  | node l r res => if ownDue l.win r.win res = [(a, b)] then node l r (some s) else node (play a b s l) (play a b s r) res
theorem players_node {l r : G} {res : Option Bool} : (node l r res).players = l.players ++ r.players := List.filterMap_append ..
theorem mem_players {t : G} {p : Int} : p ∈ t.players ↔ some p ∈ t.leaves := by
  unfold players
  rw [List.mem_filterMap]
  exact ⟨fun ⟨a, h, e⟩ => by rw [show a = some p from e] at h; exact h, fun h => ⟨_, h, rfl⟩⟩
theorem win_mem : ∀ {t : G} {p : Int}, t.win = some (some p) → p ∈ t.players
  | leaf x, p, h => by
    rw [show x = some p from Option.some.inj h]; simp [players, leaves]
  | node l r res, p, h => by
    rw [players_node]
    have we : (node l r res).win = (match l.win, r.win with | some a, some b => out a b res | _, _ => none) := rfl
    rw [we] at h
    cases el : l.win with
    | none => rw [el] at h; cases h
    | some a =>
      cases er : r.win with
      | none => rw [el, er] at h; cases h
      | some b =>
        rw [el, er] at h
        cases a with
        | none => cases h; exact List.mem_append_right _ (win_mem er)
        | some a =>
          cases b with
          | none => cases h; exact List.mem_append_left _ (win_mem el)
          | some b =>
            cases res with
            | none => cases h
            | some s =>
              cases s with
              | false => cases h; exact List.mem_append_left _ (win_mem el)
              | true => cases h; exact List.mem_append_right _ (win_mem er)
/-- done: nothing is due there -/
theorem done_due : ∀ {t : G} {x : Option Int}, t.win = some x → t.due = []
  | leaf _, _, _ => rfl
  | node l r res, x, h => by
    have we : (node l r res).win = (match l.win, r.win with | some a, some b => out a b res | _, _ => none) := rfl
    rw [we] at h
    cases el : l.win with
    | none => rw [el] at h; cases h
    | some a =>
      cases er : r.win with
      | none => rw [el, er] at h; cases h
      | some b =>
        rw [el, er] at h
        show ownDue l.win r.win res ++ (l.due ++ r.due) = []
        rw [done_due el, done_due er, el, er]
        cases a with
        | none => rfl
        | some a =>
          cases b with
          | none => rfl
          | some b =>
            cases res with
            | none => cases h
            | some s => rfl
/-- nothing due: done -/
theorem due_done : ∀ {t : G}, t.due = [] → t.win ≠ none
  | leaf _, _ => fun z => nomatch z
  | node l r res, h => by
    have h' : ownDue l.win r.win res ++ (l.due ++ r.due) = [] := h
    rw [List.append_eq_nil_iff, List.append_eq_nil_iff] at h'
    obtain ⟨h1, h2, h3⟩ := h'
    have wl := due_done h2
    have wr := due_done h3
    have we : (node l r res).win = (match l.win, r.win with | some a, some b => out a b res | _, _ => none) := rfl
    rw [we]
    cases el : l.win with
    | none => exact absurd el wl
    | some a =>
      cases er : r.win with
      | none => exact absurd er wr
      | some b =>
        rw [el, er] at h1
        cases a with
        | none => exact fun z => nomatch z
        | some a =>
          cases b with
          | none => exact fun z => nomatch z
          | some b =>
            cases res with
            | none => cases h1
            | some s => cases s <;> exact fun z => nomatch z
theorem due_mem : ∀ {t : G} {a b : Int}, (a, b) ∈ t.due → a ∈ t.players ∧ b ∈ t.players
  | node l r res, a, b, h => by
    have h' : (a, b) ∈ ownDue l.win r.win res ++ (l.due ++ r.due) := h
    rw [players_node]
    rcases List.mem_append.mp h' with h1 | h1
    · cases el : l.win with
      | none => rw [el] at h1; cases h1
      | some x =>
        cases er : r.win with
        | none => rw [el, er] at h1; cases x <;> cases h1
        | some y =>
          rw [el, er] at h1
          cases x with
          | none => cases h1
          | some x =>
            cases y with
            | none => cases h1
            | some y =>
              cases res with
              | some s => cases h1
              | none =>
                have e : (a, b) = (x, y) := List.mem_singleton.mp h1
                cases e
                exact ⟨List.mem_append_left _ (win_mem el), List.mem_append_right _ (win_mem er)⟩
    · rcases List.mem_append.mp h1 with h2 | h2
      · exact ⟨List.mem_append_left _ (due_mem h2).1, List.mem_append_left _ (due_mem h2).2⟩
      · exact ⟨List.mem_append_right _ (due_mem h2).1, List.mem_append_right _ (due_mem h2).2⟩
theorem ownLoss_cases {A B : Option (Option Int)} {res : Option Bool} {p w : Int} (h : (p, w) ∈ ownLoss A B res) : ∃ a b, A = some (some a) ∧ B = some (some b) ∧ ((res = some false ∧ p = b ∧ w = a) ∨ (res = some true ∧ p = a ∧ w = b)) := by
  cases A with
  | none => cases h
  | some x =>
    cases x with
    | none => cases h
    | some a =>
      cases B with
      | none => cases h
      | some y =>
        cases y with
        | none => cases h
        | some b =>
          cases res with
          | none => cases h
          | some s =>
            cases s with
            | false => have e : (p, w) = (b, a) := List.mem_singleton.mp h; cases e; exact ⟨_, _, rfl, rfl, .inl ⟨rfl, rfl, rfl⟩⟩
            | true => have e : (p, w) = (a, b) := List.mem_singleton.mp h; cases e; exact ⟨_, _, rfl, rfl, .inr ⟨rfl, rfl, rfl⟩⟩
theorem ownDue_cases {A B : Option (Option Int)} {res : Option Bool} {a b : Int} (h : (a, b) ∈ ownDue A B res) : A = some (some a) ∧ B = some (some b) ∧ res = none ∧ ownDue A B res = [(a, b)] := by
  cases A with
  | none => cases h
  | some x =>
    cases x with
    | none => cases h
    | some a' =>
      cases B with
      | none => cases h
      | some y =>
        cases y with
        | none => cases h
        | some b' =>
          cases res with
          | some s => cases h
          | none => have e : (a, b) = (a', b') := List.mem_singleton.mp h; cases e; exact ⟨rfl, rfl, rfl, rfl⟩
theorem loss_mem : ∀ {t : G} {p w : Int}, (p, w) ∈ t.losses → p ∈ t.players ∧ w ∈ t.players
  | node l r res, p, w, h => by
    have h' : (p, w) ∈ ownLoss l.win r.win res ++ (l.losses ++ r.losses) := h
    rw [players_node]
    rcases List.mem_append.mp h' with h1 | h1
    · obtain ⟨a, b, el, er, ⟨_, rfl, rfl⟩ | ⟨_, rfl, rfl⟩⟩ := ownLoss_cases h1
      · exact ⟨List.mem_append_right _ (win_mem er), List.mem_append_left _ (win_mem el)⟩
      · exact ⟨List.mem_append_left _ (win_mem el), List.mem_append_right _ (win_mem er)⟩
    · rcases List.mem_append.mp h1 with h2 | h2
      · exact ⟨List.mem_append_left _ (loss_mem h2).1, List.mem_append_left _ (loss_mem h2).2⟩
      · exact ⟨List.mem_append_right _ (loss_mem h2).1, List.mem_append_right _ (loss_mem h2).2⟩
theorem win_node {l r : G} {res : Option Bool} {x : Option Int} (h : (node l r res).win = some x) : ∃ a b, l.win = some a ∧ r.win = some b ∧ out a b res = some x := by
  have we : (node l r res).win = (match l.win, r.win with | some a, some b => out a b res | _, _ => none) := rfl
  rw [we] at h
  cases el : l.win with
  | none => rw [el] at h; cases h
  | some a =>
    cases er : r.win with
    | none => rw [el, er] at h; cases h
    | some b => rw [el, er] at h; exact ⟨a, b, rfl, rfl, h⟩
theorem out_cases {a b x : Option Int} {res : Option Bool} (h : out a b res = some x) : (a = none ∧ x = b) ∨ (b = none ∧ x = a) ∨ (∃ p q, a = some p ∧ b = some q ∧ ((res = some false ∧ x = some p) ∨ (res = some true ∧ x = some q))) := by
  cases a with
  | none => cases h; exact .inl ⟨rfl, rfl⟩
  | some p =>
    cases b with
    | none => cases h; exact .inr (.inl ⟨rfl, rfl⟩)
    | some q =>
      cases res with
      | none => cases h
      | some s =>
        cases s with
        | false => cases h; exact .inr (.inr ⟨p, q, rfl, rfl, .inl ⟨rfl, rfl⟩⟩)
        | true => cases h; exact .inr (.inr ⟨p, q, rfl, rfl, .inr ⟨rfl, rfl⟩⟩)
/-- who has come out has not lost -/
theorem win_free : ∀ {t : G} {x w : Int}, t.players.Nodup → t.win = some (some x) → (x, w) ∉ t.losses
  | leaf _, _, _, _, _ => fun z => nomatch z
  | node l r res, x, w, nd, h => by
    rw [players_node] at nd
    obtain ⟨n1, n2, n3⟩ := List.nodup_append.mp nd
    obtain ⟨a, b, el, er, ho⟩ := win_node h
    intro hm
    have h' : (x, w) ∈ ownLoss l.win r.win res ++ (l.losses ++ r.losses) := hm
    -- where x is from
    have side : (l.win = some (some x)) ∨ (r.win = some (some x)) := by
      rcases out_cases ho with ⟨_, rfl⟩ | ⟨_, rfl⟩ | ⟨p, q, rfl, rfl, ⟨_, e⟩ | ⟨_, e⟩⟩
      · exact .inr er
      · exact .inl el
      · cases e; exact .inl el
      · cases e; exact .inr er
    rcases List.mem_append.mp h' with h1 | h1
    · obtain ⟨a', b', el', er', ⟨e1, e2, _⟩ | ⟨e1, e2, _⟩⟩ := ownLoss_cases h1
      · rw [el] at el'; rw [er] at er'
        cases el'; cases er'; subst e1 e2
        cases ho
        exact n3 x (win_mem el) x (win_mem er) rfl
      · rw [el] at el'; rw [er] at er'
        cases el'; cases er'; subst e1 e2
        cases ho
        exact n3 x (win_mem el) x (win_mem er) rfl
    · rcases side with hl | hr
      · rcases List.mem_append.mp h1 with h2 | h2
        · exact win_free n1 hl h2
        · exact n3 x (win_mem hl) x (loss_mem h2).1 rfl
      · rcases List.mem_append.mp h1 with h2 | h2
        · exact n3 x (loss_mem h2).1 x (win_mem hr) rfl
        · exact win_free n2 hr h2
/-- whose contest is due has not lost -/
theorem due_free : ∀ {t : G} {a b : Int}, t.players.Nodup → (a, b) ∈ t.due → ∀ w, (a, w) ∉ t.losses ∧ (b, w) ∉ t.losses
  | node l r res, a, b, nd, h, w => by
    rw [players_node] at nd
    obtain ⟨n1, n2, n3⟩ := List.nodup_append.mp nd
    have h' : (a, b) ∈ ownDue l.win r.win res ++ (l.due ++ r.due) := h
    have split : ∀ p, (p, w) ∈ (node l r res).losses → (p, w) ∈ ownLoss l.win r.win res ∨ (p, w) ∈ l.losses ∨ (p, w) ∈ r.losses := fun p hp => by
      have hp' : (p, w) ∈ ownLoss l.win r.win res ++ (l.losses ++ r.losses) := hp
      rcases List.mem_append.mp hp' with z | z
      · exact .inl z
      · exact .inr (List.mem_append.mp z)
    rcases List.mem_append.mp h' with h1 | h1
    · obtain ⟨el, er, rfl, _⟩ := ownDue_cases h1
      constructor
      · intro hm
        rcases split a hm with z | z | z
        · obtain ⟨_, _, _, _, ⟨e, _⟩ | ⟨e, _⟩⟩ := ownLoss_cases z <;> cases e
        · exact win_free n1 el z
        · exact n3 a (win_mem el) a (loss_mem z).1 rfl
      · intro hm
        rcases split b hm with z | z | z
        · obtain ⟨_, _, _, _, ⟨e, _⟩ | ⟨e, _⟩⟩ := ownLoss_cases z <;> cases e
        · exact n3 b (loss_mem z).1 b (win_mem er) rfl
        · exact win_free n2 er z
    · rcases List.mem_append.mp h1 with h2 | h2
      · have ih := due_free n1 h2 w
        have pl := due_mem h2
        have nl : l.win = none := by
          cases e : l.win with
          | none => rfl
          | some x => rw [done_due e] at h2; cases h2
        have no : ∀ p, (p, w) ∉ ownLoss l.win r.win res := fun p z => by
          obtain ⟨_, _, e, _⟩ := ownLoss_cases z; rw [nl] at e; cases e
        exact ⟨fun hm => (split a hm).elim (no a) fun z => z.elim ih.1 fun z => n3 a pl.1 a (loss_mem z).1 rfl, fun hm => (split b hm).elim (no b) fun z => z.elim ih.2 fun z => n3 b pl.2 b (loss_mem z).1 rfl⟩
      · have ih := due_free n2 h2 w
        have pr := due_mem h2
        have nr : r.win = none := by
          cases e : r.win with
          | none => rfl
          | some x => rw [done_due e] at h2; cases h2
        have no : ∀ p, (p, w) ∉ ownLoss l.win r.win res := fun p z => by
          obtain ⟨_, _, _, e, _⟩ := ownLoss_cases z; rw [nr] at e; cases e
        exact ⟨fun hm => (split a hm).elim (no a) fun z => z.elim (fun z => n3 a (loss_mem z).1 a pr.1 rfl) ih.1, fun hm => (split b hm).elim (no b) fun z => z.elim (fun z => n3 b (loss_mem z).1 b pr.2 rfl) ih.2⟩
end G
end Cd

set_option linter.all false
set_option maxRecDepth 100000
/-! The rows of a tree, its due contests in order. -/
namespace Cd
namespace G
def Agree (β : Int → Option Int) : G → Prop
  | leaf _ => True
  | node l r res => Agree β l ∧ Agree β r ∧ ∀ a b, l.win = some (some a) → r.win = some (some b) → (β a = some b ↔ res = some true) ∧ (β b = some a ↔ res = some false)
theorem agree_of {β : Int → Option Int} : ∀ {t : G}, t.players.Nodup → (∀ p w, (p, w) ∈ t.losses → β p = some w) → (∀ p ∈ t.players, ∀ w, β p = some w → (p, w) ∈ t.losses ∨ (t.win = some (some p) ∧ w ∉ t.players)) → Agree β t
  | leaf _, _, _, _ => trivial
  | node l r res, nd, h1, h2 => by
    rw [players_node] at nd
    obtain ⟨n1, n2, n3⟩ := List.nodup_append.mp nd
    have inl : ∀ {p w}, (p, w) ∈ l.losses → (p, w) ∈ (node l r res).losses := fun h => List.mem_append_right _ (List.mem_append_left _ h)
    have inr : ∀ {p w}, (p, w) ∈ r.losses → (p, w) ∈ (node l r res).losses := fun h => List.mem_append_right _ (List.mem_append_right _ h)
    have split : ∀ {p w}, (p, w) ∈ (node l r res).losses → (p, w) ∈ ownLoss l.win r.win res ∨ (p, w) ∈ l.losses ∨ (p, w) ∈ r.losses := fun {p w} hp => by
      have hp' : (p, w) ∈ ownLoss l.win r.win res ++ (l.losses ++ r.losses) := hp
      rcases List.mem_append.mp hp' with z | z
      · exact .inl z
      · exact .inr (List.mem_append.mp z)
    -- a winner of the whole from one side is that side's
    have wl : ∀ {p}, p ∈ l.players → (node l r res).win = some (some p) → l.win = some (some p) := fun {p} hp h => by
      obtain ⟨a, b, el, er, ho⟩ := win_node h
      rcases out_cases ho with ⟨_, rfl⟩ | ⟨_, rfl⟩ | ⟨x, y, rfl, rfl, ⟨_, e⟩ | ⟨_, e⟩⟩
      · exact (n3 p hp p (win_mem er) rfl).elim
      · exact el
      · cases e; exact el
      · cases e; exact (n3 p hp p (win_mem er) rfl).elim
    have wr : ∀ {p}, p ∈ r.players → (node l r res).win = some (some p) → r.win = some (some p) := fun {p} hp h => by
      obtain ⟨a, b, el, er, ho⟩ := win_node h
      rcases out_cases ho with ⟨_, rfl⟩ | ⟨_, rfl⟩ | ⟨x, y, rfl, rfl, ⟨_, e⟩ | ⟨_, e⟩⟩
      · exact er
      · exact (n3 p (win_mem el) p hp rfl).elim
      · cases e; exact (n3 p (win_mem el) p hp rfl).elim
      · cases e; exact er
    refine ⟨agree_of n1 (fun p w h => h1 p w (inl h)) (fun p hp w hw => ?_), agree_of n2 (fun p w h => h1 p w (inr h)) (fun p hp w hw => ?_), fun a b el er => ⟨⟨fun h => ?_, fun h => ?_⟩, ⟨fun h => ?_, fun h => ?_⟩⟩⟩
    · rcases h2 p (by rw [players_node]; exact List.mem_append_left _ hp) w hw with h | ⟨h, hn⟩
      · rcases split h with z | z | z
        · obtain ⟨a, b, el, er, ⟨_, e1, e2⟩ | ⟨_, e1, e2⟩⟩ := ownLoss_cases z
          · subst e1; exact (n3 p hp p (win_mem er) rfl).elim
          · subst e1 e2; exact .inr ⟨el, fun q => n3 w q w (win_mem er) rfl⟩
        · exact .inl z
        · exact (n3 p hp p (loss_mem z).1 rfl).elim
      · exact .inr ⟨wl hp h, fun q => hn (by rw [players_node]; exact List.mem_append_left _ q)⟩
    · rcases h2 p (by rw [players_node]; exact List.mem_append_right _ hp) w hw with h | ⟨h, hn⟩
      · rcases split h with z | z | z
        · obtain ⟨a, b, el, er, ⟨_, e1, e2⟩ | ⟨_, e1, e2⟩⟩ := ownLoss_cases z
          · subst e1 e2; exact .inr ⟨er, fun q => n3 w (win_mem el) w q rfl⟩
          · subst e1; exact (n3 p (win_mem el) p hp rfl).elim
        · exact (n3 p (loss_mem z).1 p hp rfl).elim
        · exact .inl z
      · exact .inr ⟨wr hp h, fun q => hn (by rw [players_node]; exact List.mem_append_right _ q)⟩
    · rcases h2 a (by rw [players_node]; exact List.mem_append_left _ (win_mem el)) b h with h | ⟨_, hn⟩
      · rcases split h with z | z | z
        · obtain ⟨a', b', el', er', ⟨_, e1, e2⟩ | ⟨e0, e1, e2⟩⟩ := ownLoss_cases z
          · rw [er] at er'; cases er'
            exact (n3 a (win_mem el) a (by rw [e1]; exact win_mem er) rfl).elim
          · exact e0
        · exact (n3 b (loss_mem z).2 b (win_mem er) rfl).elim
        · exact (n3 a (win_mem el) a (loss_mem z).1 rfl).elim
      · exact (hn (by rw [players_node]; exact List.mem_append_right _ (win_mem er))).elim
    · subst h
      refine h1 a b (List.mem_append_left _ ?_)
      rw [el, er]; exact List.mem_singleton.mpr rfl
    · rcases h2 b (by rw [players_node]; exact List.mem_append_right _ (win_mem er)) a h with h | ⟨_, hn⟩
      · rcases split h with z | z | z
        · obtain ⟨a', b', el', er', ⟨e0, e1, e2⟩ | ⟨_, e1, e2⟩⟩ := ownLoss_cases z
          · exact e0
          · rw [el] at el'; cases el'
            exact (n3 b (by rw [e1]; exact win_mem el) b (win_mem er) rfl).elim
        · exact (n3 b (loss_mem z).1 b (win_mem er) rfl).elim
        · exact (n3 a (win_mem el) a (loss_mem z).2 rfl).elim
      · exact (hn (by rw [players_node]; exact List.mem_append_left _ (win_mem el))).elim
    · subst h
      refine h1 b a (List.mem_append_left _ ?_)
      rw [el, er]; exact List.mem_singleton.mpr rfl
theorem comes_node {β : Int → Option Int} {l r : G} {res : Option Bool} (h : Agree β (node l r res)) (nn : ∀ p ∈ (node l r res).players, 0 ≤ p) : comes β l.ent r.ent = ((node l r res).ent, (node l r res).own) := by
  have we : (node l r res).win = (match l.win, r.win with | some a, some b => out a b res | _, _ => none) := rfl
  have wn : (node l r res).ent = (match (node l r res).win with | none => some (-1) | some x => x) := rfl
  have wo : (node l r res).own = ownDue l.win r.win res := rfl
  have wl : l.ent = (match l.win with | none => some (-1) | some x => x) := rfl
  have wr : r.ent = (match r.win with | none => some (-1) | some x => x) := rfl
  rw [wn, we, wo, wl, wr]
  rw [players_node] at nn
  cases el : l.win with
  | none =>
    cases er : r.win with
    | none => rfl
    | some y => cases y <;> rfl
  | some x =>
    cases x with
    | none =>
      cases er : r.win with
      | none => rfl
      | some y => cases y <;> rfl
    | some a =>
      have na : ¬ a = -1 := fun z => by have := nn a (List.mem_append_left _ (win_mem el)); omega
      cases er : r.win with
      | none => simp [comes, ownDue]
      | some y =>
        cases y with
        | none => rfl
        | some b =>
          have nb : ¬ b = -1 := fun z => by have := nn b (List.mem_append_right _ (win_mem er)); omega
          obtain ⟨c1, c2⟩ := h.2.2 a b el er
          show (if a = -1 ∨ b = -1 then (some (-1), []) else if β a = some b then (some b, []) else if β b = some a then (some a, []) else (some (-1), [(a, b)])) = _
          rw [if_neg (by rintro (z | z); exact na z; exact nb z)]
          cases res with
          | none => rw [if_neg (fun z => by cases c1.mp z), if_neg (fun z => by cases c2.mp z)]; rfl
          | some s =>
            cases s with
            | true => rw [if_pos (c1.mpr rfl)]; rfl
            | false => rw [if_neg (fun z => by cases c1.mp z), if_pos (c2.mpr rfl)]; rfl
def atD : Nat → G → List G
  | 0, t => [t]
  | d + 1, node l r _ => atD d l ++ atD d r
  | _ + 1, leaf _ => []
theorem atD_len : ∀ {d k : Nat} {t : G}, perf k t = true → d ≤ k → (atD d t).length = 2 ^ d
  | 0, _, _, _, _ => rfl
  | d + 1, k + 1, node l r _, h, hd => by
    have h' : (perf k l && perf k r) = true := h
    rw [Bool.and_eq_true] at h'
    show (atD d l ++ atD d r).length = _
    rw [List.length_append, atD_len h'.1 (by omega), atD_len h'.2 (by omega), Nat.pow_succ]; omega
  | d + 1, 0, _, _, hd => absurd hd (by omega)
  | d + 1, k + 1, leaf _, h, _ => by cases h
theorem rowP_append {β : Int → Option Int} : ∀ {m : Nat} {A B : List (Option Int)}, A.length = 2 * m → rowP β (A ++ B) = ((rowP β A).1 ++ (rowP β B).1, (rowP β A).2 ++ (rowP β B).2)
  | 0, A, B, h => by
    have : A = [] := List.eq_nil_of_length_eq_zero (by omega)
    subst this; rfl
  | m + 1, a :: b :: r, B, h => by
    have ih := rowP_append (β := β) (m := m) (A := r) (B := B) (by simp at h; omega)
    show rowP β (a :: b :: (r ++ B)) = _
    simp only [rowP, ih, List.cons_append, List.append_assoc]
  | m + 1, [a], _, h => by simp at h; omega
  | m + 1, [], _, h => by simp at h
theorem rowP_at {β : Int → Option Int} : ∀ {d k : Nat} {t : G}, perf k t = true → d + 1 ≤ k → Agree β t → (∀ p ∈ t.players, 0 ≤ p) → rowP β ((atD (d + 1) t).map ent) = ((atD d t).map ent, (atD d t).flatMap own)
  | 0, k + 1, node l r res, h, hd, ha, nn => by
    have e : (atD 1 (node l r res)).map ent = [l.ent, r.ent] := rfl
    rw [e]
    show ((comes β l.ent r.ent).1 :: [], (comes β l.ent r.ent).2 ++ []) = _
    rw [comes_node ha nn]
    simp [atD]
  | d + 1, k + 1, node l r res, h, hd, ha, nn => by
    have h' : (perf k l && perf k r) = true := h
    rw [Bool.and_eq_true] at h'
    rw [players_node] at nn
    have e : (atD (d + 2) (node l r res)).map ent = (atD (d + 1) l).map ent ++ (atD (d + 1) r).map ent := by
      show (atD (d + 1) l ++ atD (d + 1) r).map ent = _
      rw [List.map_append]
    rw [e, rowP_append (m := 2 ^ d) (by rw [List.length_map, atD_len h'.1 (by omega), Nat.pow_succ]; omega), rowP_at h'.1 (by omega) ha.1 (fun p hp => nn p (List.mem_append_left _ hp)), rowP_at h'.2 (by omega) ha.2.1 (fun p hp => nn p (List.mem_append_right _ hp))]
    simp [atD]
  | _, 0, _, _, hd, _, _ => absurd hd (by omega)
  | _, _ + 1, leaf _, h, _, _, _ => by cases h
def above : Nat → G → List (Int × Int)
  | 0, _ => []
  | d + 1, t => (atD d t).flatMap own ++ above d t
theorem lev_at {β : Int → Option Int} {k : Nat} {t : G} (h : perf k t = true) (ha : Agree β t) (nn : ∀ p ∈ t.players, 0 ≤ p) : ∀ {d : Nat}, d ≤ k → lev β d ((atD d t).map ent) = above d t
  | 0, _ => rfl
  | d + 1, hd => by
    show (rowP β ((atD (d + 1) t).map ent)).2 ++ lev β d (rowP β ((atD (d + 1) t).map ent)).1 = _
    rw [rowP_at h hd ha nn, lev_at h ha nn (d := d) (by omega)]
    rfl
theorem leaves_at : ∀ {k : Nat} {t : G}, perf k t = true → (atD k t).map ent = t.leaves ∧ (atD k t).flatMap due = []
  | 0, leaf x, _ => ⟨rfl, rfl⟩
  | k + 1, node l r res, h => by
    have h' : (perf k l && perf k r) = true := h
    rw [Bool.and_eq_true] at h'
    obtain ⟨a1, a2⟩ := leaves_at h'.1
    obtain ⟨b1, b2⟩ := leaves_at h'.2
    show (atD k l ++ atD k r).map ent = l.leaves ++ r.leaves ∧ (atD k l ++ atD k r).flatMap due = []
    rw [List.map_append, a1, b1, List.flatMap_append, a2, b2]
    exact ⟨rfl, rfl⟩
  | 0, node _ _ _, h => by cases h
  | _ + 1, leaf _, h => by cases h
theorem perm4 {α : Type} {a b c d : List α} : ((a ++ b) ++ (c ++ d)).Perm ((a ++ c) ++ (b ++ d)) := by
  rw [List.append_assoc, List.append_assoc]
  refine List.Perm.append_left a ?_
  rw [← List.append_assoc, ← List.append_assoc]
  exact List.Perm.append_right d List.perm_append_comm
theorem own_perm : ∀ {d k : Nat} {t : G}, perf k t = true → d + 1 ≤ k → ((atD d t).flatMap own ++ (atD (d + 1) t).flatMap due).Perm ((atD d t).flatMap due)
  | 0, k + 1, node l r res, h, _ => by
    show ((own (node l r res) ++ []) ++ (([l] ++ [r]).flatMap due)).Perm (due (node l r res) ++ [])
    simp [own, due]
  | d + 1, k + 1, node l r res, h, hd => by
    have h' : (perf k l && perf k r) = true := h
    rw [Bool.and_eq_true] at h'
    have i1 := own_perm h'.1 (d := d) (by omega)
    have i2 := own_perm h'.2 (d := d) (by omega)
    show ((atD d l ++ atD d r).flatMap own ++ (atD (d + 1) l ++ atD (d + 1) r).flatMap due).Perm ((atD d l ++ atD d r).flatMap due)
    rw [List.flatMap_append, List.flatMap_append, List.flatMap_append]
    exact perm4.trans (i1.append i2)
  | _, 0, _, _, hd => absurd hd (by omega)
  | _, _ + 1, leaf _, h, _ => by cases h
theorem above_perm {k : Nat} {t : G} (h : perf k t = true) : ∀ {d : Nat}, d ≤ k → (above d t ++ (atD d t).flatMap due).Perm t.due
  | 0, _ => by simp [above, atD]
  | d + 1, hd => by
    have ih := above_perm h (d := d) (by omega)
    have o := own_perm h hd
    show (((atD d t).flatMap own ++ above d t) ++ (atD (d + 1) t).flatMap due).Perm t.due
    refine List.Perm.trans ?_ ih
    refine List.Perm.trans ?_ (List.Perm.append_left _ o)
    rw [← List.append_assoc]
    exact List.Perm.append_right _ List.perm_append_comm
/-- what the rows find is what is due -/
theorem lev_perm {β : Int → Option Int} {k : Nat} {t : G} (h : perf k t = true) (ha : Agree β t) (nn : ∀ p ∈ t.players, 0 ≤ p) : (lev β k t.leaves).Perm t.due := by
  obtain ⟨e1, e2⟩ := leaves_at h
  rw [← e1, lev_at h ha nn (Nat.le_refl _)]
  have := above_perm h (Nat.le_refl k)
  rw [e2, List.append_nil] at this
  exact this
/-- in the order of the slots -/
theorem due_sub : ∀ {t : G}, (t.due.map fun c => some c.1).Sublist t.leaves
  | leaf _ => List.nil_sublist _
  | node l r res => by
    have we : (node l r res).due = ownDue l.win r.win res ++ (l.due ++ r.due) := rfl
    show (((node l r res).due).map _).Sublist (l.leaves ++ r.leaves)
    rw [we]
    cases eo : ownDue l.win r.win res with
    | nil => rw [List.nil_append, List.map_append]; exact List.Sublist.append due_sub due_sub
    | cons c cs =>
      obtain ⟨a, b⟩ := c
      obtain ⟨el, er, e3, e4⟩ := ownDue_cases (a := a) (b := b) (by rw [eo]; exact List.mem_cons_self ..)
      rw [eo] at e4
      rw [e4, done_due el, done_due er]
      have : [some a].Sublist l.leaves := List.singleton_sublist.mpr (mem_players.mp (win_mem el))
      exact this.trans (List.sublist_append_left _ _)
end G
theorem idx_cons {x : Option Int} {S : List (Option Int)} {p : Int} (h : x ≠ some p) (hp : some p ∈ S) : idx (x :: S) p = idx S p + 1 := by
  unfold idx
  rw [List.findIdx?_cons]
  have e : (x == some p) = false := by simpa using h
  rw [e]
  cases q : S.findIdx? (fun a => a == some p) with
  | some j => simp
  | none =>
    rw [List.findIdx?_eq_none_iff] at q
    have := q _ hp
    simp at this
theorem idx_sorted : ∀ {S : List (Option Int)} {L : List Int}, (S.filterMap id).Nodup → (L.map some).Sublist S → (L.map (idx S)).Pairwise (· < ·)
  | [], L, _, h => by
    have : L = [] := by simpa using List.sublist_nil.mp h
    subst this; exact List.Pairwise.nil
  | x :: S, L, nd, h => by
    have nd' : (S.filterMap id).Nodup := by
      cases x with
      | none => simpa using nd
      | some p => exact (List.nodup_cons.mp (by simpa using nd)).2
    have off : ∀ p, some p ∈ S → x ≠ some p := fun p hp z => by
      subst z
      have : (p :: S.filterMap id).Nodup := by simpa using nd
      exact (List.nodup_cons.mp this).1 (List.mem_filterMap.mpr ⟨_, hp, rfl⟩)
    have tail : ∀ {L : List Int}, (L.map some).Sublist S → (L.map (idx (x :: S))).Pairwise (· < ·) := fun {L} h => by
      have e : L.map (idx (x :: S)) = (L.map (idx S)).map (· + 1) := by
        rw [List.map_map]
        refine List.map_congr_left fun p hp => ?_
        have hs : some p ∈ S := h.subset (List.mem_map.mpr ⟨p, hp, rfl⟩)
        exact idx_cons (off p hs) hs
      rw [e, List.pairwise_map]
      exact (idx_sorted nd' h).imp fun h => by omega
    cases L with
    | nil => exact List.Pairwise.nil
    | cons p L =>
      rw [List.map_cons] at h
      cases h with
      | cons _ h => exact tail (L := p :: L) h
      | cons_cons _ h =>
        rw [List.map_cons, List.pairwise_cons]
        refine ⟨fun j hj => ?_, tail h⟩
        obtain ⟨q, hq, rfl⟩ := List.mem_map.mp hj
        have hs : some q ∈ S := h.subset (List.mem_map.mpr ⟨q, hq, rfl⟩)
        rw [idx_cons (off q hs) hs]
        have : idx (some p :: S) p = 0 := by simp [idx, List.findIdx?_cons]
        omega
end Cd

set_option linter.all false
set_option maxRecDepth 100000
/-! A contest is played; how many have lost; what is due, told by the program. -/
namespace Cd
theorem inj_of_lt {α : Type} {g : α → Nat} : ∀ {ds : List α}, (ds.map g).Pairwise (· < ·) → ∀ a ∈ ds, ∀ b ∈ ds, g a = g b → a = b
  | [], _, _, h, _, _, _ => nomatch h
  | d :: ds, h, a, ha, b, hb, e => by
    rw [List.map_cons, List.pairwise_cons] at h
    rcases List.mem_cons.mp ha with rfl | ha
    · rcases List.mem_cons.mp hb with rfl | hb
      · rfl
      · have := h.1 _ (List.mem_map.mpr ⟨b, hb, rfl⟩); omega
    · rcases List.mem_cons.mp hb with eb | hb
      · have := h.1 (g a) (List.mem_map.mpr ⟨a, ‹a ∈ ds›, rfl⟩); rw [eb] at e; omega
      · exact inj_of_lt h.2 a ‹a ∈ ds› b hb e
theorem sortC_eq {S : List (Option Int)} {cs ds : List (Int × Int)} (p : cs.Perm ds) (hs : (ds.map fun c => idx S c.1).Pairwise (· < ·)) : sortC S cs = ds := by
  have z : ∀ l : List (Int × Int), l.zip (l.map fun c => (idx S c.1 : Int)) = l.map fun c => (c, (idx S c.1 : Int)) := by
    intro l
    induction l with
    | nil => rfl
    | cons c l ih => rw [List.map_cons, List.zip_cons_cons, ih]; rfl
  unfold sortC
  rw [z]
  have e : ((cs.map fun c => (c, (idx S c.1 : Int))).mergeSort fun p q => decide (p.2 ≤ q.2)) = ds.map fun c => (c, (idx S c.1 : Int)) := by
    refine List.Perm.eq_of_pairwise (le := fun p q => decide (p.2 ≤ q.2) = true) ?_ (List.pairwise_mergeSort (fun a b c h1 h2 => ?_) (fun a b => ?_) _) ?_ ((List.mergeSort_perm _ _).trans (p.map _))
    · intro a b ha hb h1 h2
      obtain ⟨c, hc, rfl⟩ := List.mem_map.mp (List.mem_mergeSort.mp ha)
      obtain ⟨d, hd, rfl⟩ := List.mem_map.mp hb
      have h1 := of_decide_eq_true h1
      have h2 := of_decide_eq_true h2
      have := inj_of_lt hs c (p.mem_iff.mp hc) d hd (by dsimp only at h1 h2; omega)
      rw [this]
    · rw [decide_eq_true_eq] at h1 h2 ⊢; omega
    · rw [Bool.or_eq_true, decide_eq_true_eq, decide_eq_true_eq]; omega
    · rw [List.pairwise_map]
      rw [List.pairwise_map] at hs
      exact hs.imp fun h => by rw [decide_eq_true_eq]; dsimp only; omega
  rw [e, List.map_map]
  show ds.map (fun c => c) = ds
  exact List.map_id ds
namespace G
/-- β tells who has lost to whom -/
def Beta (β : Int → Option Int) (t : G) : Prop := ∀ p w, β p = some w ↔ (p, w) ∈ t.losses
theorem Beta.agree {β : Int → Option Int} {t : G} (h : Beta β t) (nd : t.players.Nodup) : Agree β t := agree_of nd (fun p w hp => (h p w).mpr hp) fun p _ w hw => .inl ((h p w).mp hw)
theorem perf_len : ∀ {k : Nat} {t : G}, perf k t = true → t.leaves.length = 2 ^ k
  | 0, leaf x, _ => rfl
  | k + 1, node l r res, h => by
    have h' : (perf k l && perf k r) = true := h
    rw [Bool.and_eq_true] at h'
    show (l.leaves ++ r.leaves).length = _
    rw [List.length_append, perf_len h'.1, perf_len h'.2, Nat.pow_succ]; omega
  | 0, node _ _ _, h => by cases h
  | _ + 1, leaf _, h => by cases h
theorem play_id {a b : Int} {s : Bool} : ∀ {t : G}, (a, b) ∉ t.due → play a b s t = t
  | leaf _, _ => rfl
  | node l r res, h => by
    have hn : ¬ ownDue l.win r.win res = [(a, b)] := fun z => h (List.mem_append_left _ (by rw [z]; exact List.mem_cons_self ..))
    show (if ownDue l.win r.win res = [(a, b)] then node l r (some s) else node (play a b s l) (play a b s r) res) = _
    rw [if_neg hn, play_id fun z => h (List.mem_append_right _ (List.mem_append_left _ z)), play_id fun z => h (List.mem_append_right _ (List.mem_append_right _ z))]
theorem play_leaves {a b : Int} {s : Bool} : ∀ {t : G}, (play a b s t).leaves = t.leaves
  | leaf _ => rfl
  | node l r res => by
    show (if ownDue l.win r.win res = [(a, b)] then node l r (some s) else node (play a b s l) (play a b s r) res).leaves = _
    split
    · rfl
    · show (play a b s l).leaves ++ (play a b s r).leaves = _
      rw [play_leaves, play_leaves]; rfl
theorem play_players {a b : Int} {s : Bool} {t : G} : (play a b s t).players = t.players := by unfold players; rw [play_leaves]
theorem play_perf {a b : Int} {s : Bool} : ∀ {k : Nat} {t : G}, perf k (play a b s t) = perf k t
  | 0, leaf _ => rfl
  | _ + 1, leaf _ => rfl
  | 0, node l r res => by
    show perf 0 (if ownDue l.win r.win res = [(a, b)] then node l r (some s) else node (play a b s l) (play a b s r) res) = _
    split <;> rfl
  | k + 1, node l r res => by
    show perf (k + 1) (if ownDue l.win r.win res = [(a, b)] then node l r (some s) else node (play a b s l) (play a b s r) res) = _
    split
    · rfl
    · show (perf k (play a b s l) && perf k (play a b s r)) = (perf k l && perf k r)
      rw [play_perf, play_perf]
theorem not_done {t : G} {c : Int × Int} (h : c ∈ t.due) : t.win = none := by
  cases e : t.win with
  | none => rfl
  | some x => rw [done_due e] at h; cases h
theorem play_losses {a b : Int} {s : Bool} : ∀ {t : G}, t.WF → t.players.Nodup → (a, b) ∈ t.due → (play a b s t).losses.Perm ((if s then (a, b) else (b, a)) :: t.losses) ∧ (play a b s t).WF
  | node l r res, wf, nd, h => by
    rw [players_node] at nd
    obtain ⟨n1, n2, n3⟩ := List.nodup_append.mp nd
    obtain ⟨w1, w2, w3⟩ := wf
    have wp : play a b s (node l r res) = if ownDue l.win r.win res = [(a, b)] then node l r (some s) else node (play a b s l) (play a b s r) res := rfl
    have h' : (a, b) ∈ ownDue l.win r.win res ++ (l.due ++ r.due) := h
    rcases List.mem_append.mp h' with h1 | h1
    · obtain ⟨el, er, rfl, e4⟩ := ownDue_cases h1
      rw [wp, if_pos e4]
      refine ⟨?_, w1, w2, fun _ => ⟨a, b, el, er⟩⟩
      show (ownLoss l.win r.win (some s) ++ (l.losses ++ r.losses)).Perm (_ :: (ownLoss l.win r.win none ++ (l.losses ++ r.losses)))
      rw [el, er]
      cases s <;> exact List.Perm.refl _
    · have rn : l.win = none ∨ r.win = none := (List.mem_append.mp h1).elim (fun z => .inl (not_done z)) fun z => .inr (not_done z)
      have re : res = none := by
        cases res with
        | none => rfl
        | some s =>
          obtain ⟨x, y, e1, e2⟩ := w3 (fun z => nomatch z)
          rcases rn with z | z
          · rw [z] at e1; cases e1
          · rw [z] at e2; cases e2
      subst re
      have hn : ¬ ownDue l.win r.win none = [(a, b)] := fun z => by
        obtain ⟨el, er, _⟩ := ownDue_cases (a := a) (b := b) (by rw [z]; exact List.mem_cons_self ..)
        rcases rn with q | q
        · rw [q] at el; cases el
        · rw [q] at er; cases er
      have none1 : ∀ A B, ownLoss A B none = [] := fun A B => by
        cases A with
        | none => rfl
        | some x => cases x with
          | none => rfl
          | some x => cases B with
            | none => rfl
            | some y => cases y <;> rfl
      rw [wp, if_neg hn]
      show (ownLoss (play a b s l).win (play a b s r).win none ++ ((play a b s l).losses ++ (play a b s r).losses)).Perm (_ :: (ownLoss l.win r.win none ++ (l.losses ++ r.losses))) ∧ ((play a b s l).WF ∧ (play a b s r).WF ∧ _)
      rw [none1, none1, List.nil_append, List.nil_append]
      rcases List.mem_append.mp h1 with h2 | h2
      · have hr : (a, b) ∉ r.due := fun z => n3 a (due_mem h2).1 a (due_mem z).1 rfl
        obtain ⟨i1, i2⟩ := play_losses (s := s) w1 n1 h2
        rw [play_id hr]
        exact ⟨i1.append_right _, i2, w2, fun z => (z rfl).elim⟩
      · have hl : (a, b) ∉ l.due := fun z => n3 a (due_mem z).1 a (due_mem h2).1 rfl
        obtain ⟨i1, i2⟩ := play_losses (s := s) w2 n2 h2
        rw [play_id hl]
        exact ⟨(i1.append_left _).trans List.perm_middle, w1, i2, fun z => (z rfl).elim⟩
/-- the players, the losers -/
theorem count : ∀ {t : G}, t.WF → (∀ x, t.win = some (some x) → t.losses.length + 1 = t.players.length) ∧ (t.win = some none → t.players.length = 0 ∧ t.losses.length = 0) ∧ (t.win = none → t.losses.length + 2 ≤ t.players.length)
  | leaf x, _ => by
    cases x with
    | none => exact ⟨fun x h => (by cases h), fun _ => ⟨rfl, rfl⟩, fun h => by cases h⟩
    | some p => exact ⟨fun x _ => rfl, fun h => (by cases h), fun h => by cases h⟩
  | node l r res, wf => by
    obtain ⟨w1, w2, w3⟩ := wf
    obtain ⟨a1, a2, a3⟩ := count w1
    obtain ⟨b1, b2, b3⟩ := count w2
    have we : (node l r res).win = (match l.win, r.win with | some a, some b => out a b res | _, _ => none) := rfl
    have wl : (node l r res).losses.length = (ownLoss l.win r.win res).length + (l.losses.length + r.losses.length) := by
      show (ownLoss l.win r.win res ++ (l.losses ++ r.losses)).length = _
      rw [List.length_append, List.length_append]
    rw [we, wl, players_node, List.length_append]
    cases el : l.win with
    | none =>
      have := a3 el
      have zo : ∀ B res, (ownLoss none B res).length = 0 := fun B res => rfl
      rw [zo]
      refine ⟨fun x h => (by cases h), fun h => (by cases h), fun _ => ?_⟩
      cases er : r.win with
      | none => have := b3 er; omega
      | some y => cases y with
        | none => have := b2 er; omega
        | some y => have := b1 y er; omega
    | some x =>
      cases er : r.win with
      | none =>
        have := b3 er
        have zo : (ownLoss (some x) none res).length = 0 := by cases x <;> rfl
        rw [zo]
        refine ⟨fun x h => (by cases h), fun h => (by cases h), fun _ => ?_⟩
        cases x with
        | none => have := a2 el; omega
        | some y => have := a1 y el; omega
      | some y =>
        cases x with
        | none =>
          have := a2 el
          have zo : (ownLoss (some none) (some y) res).length = 0 := rfl
          rw [zo]
          cases y with
          | none => have := b2 er; exact ⟨fun x h => (by cases h), fun _ => by omega, fun h => by cases h⟩
          | some y => have := b1 y er; exact ⟨fun x _ => by omega, fun h => (by cases h), fun h => by cases h⟩
        | some x =>
          have := a1 x el
          cases y with
          | none =>
            have := b2 er
            have zo : (ownLoss (some (some x)) (some none) res).length = 0 := rfl
            rw [zo]
            exact ⟨fun x _ => by omega, fun h => (by cases h), fun h => by cases h⟩
          | some y =>
            have := b1 y er
            cases res with
            | none =>
              have zo : (ownLoss (some (some x)) (some (some y)) none).length = 0 := rfl
              rw [zo]
              exact ⟨fun x h => (by cases h), fun h => (by cases h), fun _ => by omega⟩
            | some s =>
              have zo : (ownLoss (some (some x)) (some (some y)) (some s)).length = 1 := by cases s <;> rfl
              rw [zo]
              refine ⟨fun x _ => by omega, fun h => ?_, fun h => ?_⟩ <;> cases s <;> cases h
/-- all but the one who has come out have lost -/
theorem all_lost : ∀ {t : G} {x : Int}, t.WF → t.win = some (some x) → ∀ p ∈ t.players, p ≠ x → ∃ w, (p, w) ∈ t.losses
  | leaf y, x, _, h, p, hp, ne => by
    cases h
    have : p = x := by simpa [players, leaves] using hp
    exact (ne this).elim
  | node l r res, x, wf, h, p, hp, ne => by
    obtain ⟨w1, w2, w3⟩ := wf
    obtain ⟨a, b, el, er, ho⟩ := win_node h
    rw [players_node] at hp
    have inl : ∀ {p w}, (p, w) ∈ l.losses → (p, w) ∈ (node l r res).losses := fun h => List.mem_append_right _ (List.mem_append_left _ h)
    have inr : ∀ {p w}, (p, w) ∈ r.losses → (p, w) ∈ (node l r res).losses := fun h => List.mem_append_right _ (List.mem_append_right _ h)
    have empty : ∀ {t : G}, t.WF → t.win = some none → ∀ q, q ∉ t.players := fun {t} wf h q hq => by
      have := ((count wf).2.1 h).1
      rw [List.eq_nil_of_length_eq_zero this] at hq
      cases hq
    rcases out_cases ho with ⟨rfl, e⟩ | ⟨rfl, e⟩ | ⟨u, v, rfl, rfl, ⟨rs, e⟩ | ⟨rs, e⟩⟩
    · subst e
      rcases List.mem_append.mp hp with z | z
      · exact (empty w1 el p z).elim
      · obtain ⟨w, q⟩ := all_lost w2 er p z ne; exact ⟨w, inr q⟩
    · subst e
      rcases List.mem_append.mp hp with z | z
      · obtain ⟨w, q⟩ := all_lost w1 el p z ne; exact ⟨w, inl q⟩
      · exact (empty w2 er p z).elim
    · cases e
      subst rs
      rcases List.mem_append.mp hp with z | z
      · obtain ⟨w, q⟩ := all_lost w1 el p z ne; exact ⟨w, inl q⟩
      · by_cases c : p = v
        · refine ⟨x, List.mem_append_left _ ?_⟩
          rw [el, er, c]; exact List.mem_cons_self ..
        · obtain ⟨w, q⟩ := all_lost w2 er p z c; exact ⟨w, inr q⟩
    · cases e
      subst rs
      rcases List.mem_append.mp hp with z | z
      · by_cases c : p = u
        · refine ⟨x, List.mem_append_left _ ?_⟩
          rw [el, er, c]; exact List.mem_cons_self ..
        · obtain ⟨w, q⟩ := all_lost w1 el p z c; exact ⟨w, inl q⟩
      · obtain ⟨w, q⟩ := all_lost w2 er p z ne; exact ⟨w, inr q⟩
end G
/-- what is due, told by the program -/
theorem due_of {n : Int} {ks : List Int} {ws : List T} {β : Int → Option Int} {t : G} {k : Nat} (h : Lk ks ws β) (hp : G.perf k t = true) (hk : k ≤ 9) (nd : t.players.Nodup) (nn : ∀ p ∈ t.players, 0 ≤ p) (hb : G.Beta β t) :
    m_Tree_due [trT .bor .own n t.leaves ks ws] = .ret (.lst .own (t.due.map pT)) [] := by
  have pm := G.lev_perm (β := β) hp (hb.agree nd) nn
  have hs := idx_sorted (S := t.leaves) (L := t.due.map (·.1)) nd (by rw [List.map_map]; exact G.due_sub)
  rw [List.map_map] at hs
  rw [due_eq h (G.perf_len hp) hk fun c hc => ?_, sortC_eq pm hs]
  exact G.mem_players.mp (G.due_mem (t := t) (a := c.1) (b := c.2) (pm.mem_iff.mp hc)).1
end Cd

set_option linter.all false
set_option maxRecDepth 100000
/-! The tree object: made, told, looked at. -/
namespace Cd
def grow : Nat → List Int → List Int
  | 0, s => s
  | k + 1, s => grow k (s.flatMap fun x => [x, 2 * (s.length : Int) - 1 - x])
def dp (n : Nat) : Nat := if n ≤ 1 then 0 else if n ≤ 2 then 1 else if n ≤ 4 then 2 else if n ≤ 8 then 3 else 4
def slotsP (n : Nat) : List (Option Int) := (grow (dp n) [0]).map fun (x : Int) => if x < (n : Int) then some x else none
def build : Nat → List (Option Int) → G
  | 0, x :: _ => .leaf x
  | 0, [] => .leaf none
  | k + 1, S => .node (build k (S.take (2 ^ k))) (build k (S.drop (2 ^ k))) none
def tree0 (n : Nat) : G := build (dp n) (slotsP n)
def ok0 (n : Nat) : Bool := decide ((tree0 n).leaves = slotsP n) && G.perf (dp n) (tree0 n) && decide (tree0 n).players.Nodup && (tree0 n).players.all (fun p => decide (0 ≤ p) && decide (p < n)) && decide ((tree0 n).players.length = n) && (List.range n).all fun p => decide ((p : Int) ∈ (tree0 n).players)
theorem ok0_all : ∀ n ∈ List.range' 1 16, ok0 n = true := by decide +kernel
theorem build_wf : ∀ {k : Nat} {S : List (Option Int)}, (build k S).WF ∧ (build k S).losses = []
  | 0, [] => ⟨trivial, rfl⟩
  | 0, _ :: _ => ⟨trivial, rfl⟩
  | k + 1, S => by
    obtain ⟨a1, a2⟩ := build_wf (k := k) (S := S.take (2 ^ k))
    obtain ⟨b1, b2⟩ := build_wf (k := k) (S := S.drop (2 ^ k))
    refine ⟨⟨a1, b1, fun z => (z rfl).elim⟩, ?_⟩
    show G.ownLoss _ _ none ++ ((build k (S.take (2 ^ k))).losses ++ (build k (S.drop (2 ^ k))).losses) = []
    rw [a2, b2]
    cases (build k (S.take (2 ^ k))).win with
    | none => rfl
    | some x => cases x with
      | none => rfl
      | some x => cases (build k (S.drop (2 ^ k))).win with
        | none => rfl
        | some y => cases y <;> rfl
theorem in16 {n : Nat} (h1 : 1 ≤ n) (h2 : n ≤ 16) : n ∈ List.range' 1 16 := by rw [List.mem_range'_1]; omega
structure T0 (n : Nat) : Prop where
  lv : (tree0 n).leaves = slotsP n
  pf : G.perf (dp n) (tree0 n) = true
  nd : (tree0 n).players.Nodup
  bd : ∀ p ∈ (tree0 n).players, 0 ≤ p ∧ p < n
  ln : (tree0 n).players.length = n
  al : ∀ p : Nat, p < n → (p : Int) ∈ (tree0 n).players
theorem t0 {n : Nat} (h1 : 1 ≤ n) (h2 : n ≤ 16) : T0 n := by
  have h := ok0_all n (in16 h1 h2)
  unfold ok0 at h
  simp only [Bool.and_eq_true, decide_eq_true_eq, List.all_eq_true, List.mem_range] at h
  obtain ⟨⟨⟨⟨⟨a, b⟩, c⟩, d⟩, e⟩, f⟩ := h
  exact ⟨a, b, c, d, e, f⟩
theorem dp_le (n : Nat) : dp n ≤ 4 := by unfold dp; repeat' split <;> try omega
set_option maxHeartbeats 0 in
theorem slots_all : ∀ n ∈ List.range' 1 16, m_slots_of [.int (n : Nat)] = .ret (.lst .own ((slotsP n).map eT)) [] := by
  intro n hn
  have : n = 1 ∨ n = 2 ∨ n = 3 ∨ n = 4 ∨ n = 5 ∨ n = 6 ∨ n = 7 ∨ n = 8 ∨ n = 9 ∨ n = 10 ∨ n = 11 ∨ n = 12 ∨ n = 13 ∨ n = 14 ∨ n = 15 ∨ n = 16 := by
    rw [List.mem_range'_1] at hn; omega
  rcases this with h | h | h | h | h | h | h | h | h | h | h | h | h | h | h | h <;> (subst h; rfl)
theorem made {n : Nat} (h1 : 1 ≤ n) (h2 : n ≤ 16) : pMake 0 m_Tree___init__ [.int n] = .ok (trT .own .own n (slotsP n) [] []) := by
  have hs := slots_all n (in16 h1 h2)
  have e : m_Tree___init__ [.ins .own 0 [] [], .int (n : Nat)] = .ret .non [trT .own .own n (slotsP n) [] []] := by
    refine defM_next (e := [some (trT .own .own n (slotsP n) [] []), some (.int n)]) rfl ?_ rfl
    have c : pFz (pA (gCall m_slots_of) (aCons (pVar 1) aNil)) [some (.ins .own 0 [] []), some (.int (n : Nat))] = .ok (.lst .frz ((slotsP n).map eT)) := by
      refine pFz_ok (t := .lst .own ((slotsP n).map eT)) ?_ rfl
      refine (pA_ok (ts := [.int (n : Nat)]) rfl).trans ?_
      exact gCall_ok (t := .lst .own ((slotsP n).map eT)) (os := []) hs
    have s1 : mFld (lvVar 0) 0 0 (iP (pFz (pA (gCall m_slots_of) (aCons (pVar 1) aNil)))) [some (.ins .own 0 [] []), some (.int (n : Nat))] = .next [some (.ins .own 0 [0] [.lst .frz ((slotsP n).map eT)]), some (.int (n : Nat))] := by
      unfold mFld
      rw [iP_ok c]
      rfl
    refine (seq_next s1).trans ?_
    refine (seq_next (e1 := [some (.ins .own 0 [0, 1] [.lst .frz ((slotsP n).map eT), .int (n : Nat)]), some (.int (n : Nat))]) rfl).trans ?_
    rfl
  show (match m_Tree___init__ [.ins .own 0 [] [], .int (n : Nat)] with
    | .ret .non [o] => (match o.flag with | .own => PRes.ok o | _ => .bad)
    | .exc x [_] => .exc x
    | _ => .bad) = _
  rw [e]
  rfl
theorem between_in {a l h : Int} (h1 : l ≤ a) (h2 : a ≤ h) {os : List T} : gCall m_is_between [.int a, .int l, .int h] = .ok (.bl true) :=
  gCall_ok (t := .bl true) (os := []) (by show m_is_between [.int a, .int l, .int h] = _; rw [between_eq, decide_eq_true h1, decide_eq_true h2]; rfl)
/-- the tree of a state: G played so far, the dict tells β -/
structure At (n : Nat) (t : G) (ks : List Int) (ws : List T) (β : Int → Option Int) : Prop where
  lk : Lk ks ws β
  bt : G.Beta β t
  lv : t.leaves = slotsP n
  pf : G.perf (dp n) t = true
  nd : t.players.Nodup
  bd : ∀ p ∈ t.players, 0 ≤ p ∧ p < n
  ln : t.players.length = n
  al : ∀ p : Nat, p < n → (p : Int) ∈ t.players
  wf : t.WF
  kl : ks.length = ws.length
  wl : ws.length = t.losses.length
theorem At.start {n : Nat} (h1 : 1 ≤ n) (h2 : n ≤ 16) : At n (tree0 n) [] [] (fun _ => none) := by
  have h := t0 h1 h2
  obtain ⟨w, l⟩ := build_wf (k := dp n) (S := slotsP n)
  refine ⟨fun _ => rfl, fun p w => ?_, h.lv, h.pf, h.nd, h.bd, h.ln, h.al, w, rfl, ?_⟩
  · show none = some w ↔ (p, w) ∈ (build (dp n) (slotsP n)).losses
    rw [l]; simp
  · show 0 = (build (dp n) (slotsP n)).losses.length
    rw [l]; rfl
theorem At.due {n : Nat} {t : G} {ks : List Int} {ws : List T} {β : Int → Option Int} (a : At n t ks ws β) {f : Fl} (hf : f.lend = .bor) : gCall m_Tree_due [trT f .own n (slotsP n) ks ws] = .ok (.lst .own (t.due.map pT)) := by
  have hl : (trT f .own n (slotsP n) ks ws).lend = trT .bor .own n (slotsP n) ks ws := by
    show T.ins f.lend 0 _ _ = _
    rw [hf]; rfl
  refine gCall_ok (t := .lst .own (t.due.map pT)) (os := []) ?_
  show m_Tree_due [(trT f .own n (slotsP n) ks ws).lend] = _
  rw [hl, ← a.lv]
  exact due_of a.lk a.pf (Nat.le_trans (dp_le n) (by decide)) a.nd (fun p hp => (a.bd p hp).1) a.bt
theorem look_put {ks : List Int} : ∀ {ws : List T} {k p : Int} {u : T}, ks.length = ws.length → look (putD ks ws k u).1 (putD ks ws k u).2 p = if p = k then some u else look ks ws p := by
  have set : ∀ {ks : List Int} {ws : List T} {k p : Int} {u : T}, ks.length = ws.length → ks.any (fun x => decide (x = k)) = true → look ks (setD ks ws k u) p = if p = k then some u else look ks ws p := by
    intro ks
    induction ks with
    | nil => intro ws k p u _ h; cases h
    | cons a ks ih =>
      intro ws k p u hl h
      cases ws with
      | nil => cases hl
      | cons w ws =>
        show (if a = p then some (if a = k then u else w) else look ks (setD ks ws k u) p) = if p = k then some u else (if a = p then some w else look ks ws p)
        by_cases c : a = p
        · subst c
          rw [if_pos rfl, if_pos rfl]
          by_cases d : a = k
          · rw [if_pos d, if_pos d]
          · rw [if_neg d, if_neg d]
        · rw [if_neg c, if_neg c]
          by_cases d : ks.any (fun x => decide (x = k)) = true
          · exact ih (by simpa using hl) d
          · have d2 : ks.any (fun x => decide (x = k)) = false := (Bool.not_eq_true _).mp d
            have e : a = k := by
              rw [List.any_cons, d2, Bool.or_false, decide_eq_true_eq] at h; exact h
            have ne : p ≠ k := fun z => c (e.trans z.symm)
            rw [if_neg ne]
            have same : ∀ {ks : List Int} {ws : List T}, ks.length = ws.length → ks.any (fun x => decide (x = k)) = false → setD ks ws k u = ws := by
              intro ks
              induction ks with
              | nil => intro ws hl _; cases ws with
                | nil => rfl
                | cons _ _ => cases hl
              | cons b ks ih2 =>
                intro ws hl hd
                cases ws with
                | nil => cases hl
                | cons w ws =>
                  rw [List.any_cons, Bool.or_eq_false_iff] at hd
                  show (if b = k then u else w) :: setD ks ws k u = _
                  rw [if_neg (of_decide_eq_false hd.1), ih2 (by simpa using hl) hd.2]
            rw [same (by simpa using hl) d2]
  intro ws k p u hl
  unfold putD
  by_cases c : ks.any (fun x => decide (x = k)) = true
  · rw [if_pos c]; exact set hl c
  · rw [if_neg c]
    have c' : ks.any (fun x => decide (x = k)) = false := (Bool.not_eq_true _).mp c
    clear c set
    induction ks generalizing ws with
    | nil =>
      cases ws with
      | cons _ _ => cases hl
      | nil =>
        show (if k = p then some u else look [] [] p) = if p = k then some u else look [] [] p
        by_cases e : p = k
        · rw [if_pos e, if_pos e.symm]
        · rw [if_neg e, if_neg (fun z => e z.symm)]
    | cons a ks ih =>
      cases ws with
      | nil => cases hl
      | cons w ws =>
        rw [List.any_cons, Bool.or_eq_false_iff] at c'
        show (if a = p then some w else look (ks ++ [k]) (ws ++ [u]) p) = if p = k then some u else (if a = p then some w else look ks ws p)
        have := ih (ws := ws) (by simpa using hl) c'.2
        rw [this]
        by_cases e : a = p
        · subst e
          rw [if_pos rfl, if_pos rfl, if_neg (of_decide_eq_false c'.1)]
        · rw [if_neg e, if_neg e]
theorem in_due {ds : List (Int × Int)} {a b : Int} {f : Fl} : gNotIn (.tup .frz [.int a, .int b]) (.lst f (ds.map pT)) = .ok (.bl (!decide ((a, b) ∈ ds))) := by
  have e : inB (.tup .frz [.int a, .int b]) (.lst f (ds.map pT)) = (if shal 19 (.tup .frz [.int a, .int b]) && (ds.map pT).all (shal 19) then some ((ds.map pT).any fun t => eqB t (.tup .frz [.int a, .int b])) else none) := rfl
  have s2 : (ds.map pT).all (shal 19) = true := by rw [List.all_map, List.all_eq_true]; exact fun c _ => rfl
  have an : (ds.map pT).any (fun t => eqB t (.tup .frz [.int a, .int b])) = decide ((a, b) ∈ ds) := by
    induction ds with
    | nil => rfl
    | cons c ds ih =>
      have s2' : (ds.map pT).all (shal 19) = true := by rw [List.all_map, List.all_eq_true]; exact fun c _ => rfl
      rw [List.map_cons, List.any_cons, ih rfl s2']
      have ec : eqB (pT c) (.tup .frz [.int a, .int b]) = decide ((a, b) = c) := by
        show ((c.1 == a) && ((c.2 == b) && true)) = _
        obtain ⟨x, y⟩ := c
        by_cases h1 : x = a
        · subst h1
          by_cases h2 : y = b
          · subst h2; simp
          · have : (y == b) = false := by simpa using h2
            simp [this]; exact fun z => h2 z.symm
        · have : (x == a) = false := by simpa using h1
          simp [this]; exact fun z => (h1 z.symm).elim
      rw [ec]
      by_cases h1 : (a, b) = c <;> by_cases h2 : (a, b) ∈ ds <;> simp [h1, h2]
  unfold gNotIn
  rw [e, s2, if_pos (by rfl), an]
end Cd

set_option linter.all false
set_option maxRecDepth 100000
/-! Told; who is left; the champion; who has beaten whom. -/
namespace Cd
theorem At.line {n : Nat} {t : G} {ks : List Int} {ws : List T} {β : Int → Option Int} (a : At n t ks ws β) (hn : n ≤ 16) : ws.length < line := by
  have h1 := (G.count a.wf)
  have : t.losses.length ≤ t.players.length := by
    cases e : t.win with
    | none => have := h1.2.2 e; omega
    | some x => cases x with
      | none => have := h1.2.1 e; omega
      | some x => have := h1.1 x e; omega
  rw [a.wl]
  rw [a.ln] at this
  unfold Cd.line; omega
abbrev tEnv (n : Nat) (ks : List Int) (ws : List T) (w l : Int) (x : Option T) : Env := [some (trT .own .own n (slotsP n) ks ws), some (.int w), some (.int l), x]
theorem told_eq {n : Nat} {t : G} {ks : List Int} {ws : List T} {β : Int → Option Int} (a : At n t ks ws β) (hn : n ≤ 16) {w l : Int} (hd : (w, l) ∈ t.due ∨ (l, w) ∈ t.due) :
    m_Tree_told [trT .own .own n (slotsP n) ks ws, .int w, .int l] = .ret .non [trT .own .own n (slotsP n) (putD ks ws l (.int w)).1 (putD ks ws l (.int w)).2] := by
  have pw : w ∈ t.players := hd.elim (fun h => (G.due_mem h).1) fun h => (G.due_mem h).2
  have pl : l ∈ t.players := hd.elim (fun h => (G.due_mem h).2) fun h => (G.due_mem h).1
  have bw := a.bd w pw
  have bl := a.bd l pl
  have c1 : pOr (p1 gNot (pA (gCall m_is_between) (aCons (pVar 1) (aCons (pC (.int 0)) (aCons (p2 gSub (p1 (gFld 0 1) (pVar 0)) (pC (.int 1))) aNil))))) (p1 gNot (pA (gCall m_is_between) (aCons (pVar 2) (aCons (pC (.int 0)) (aCons (p2 gSub (p1 (gFld 0 1) (pVar 0)) (pC (.int 1))) aNil))))) (tEnv n ks ws w l none) = .ok (.bl false) := by
    have e1 : pA (gCall m_is_between) (aCons (pVar 1) (aCons (pC (.int 0)) (aCons (p2 gSub (p1 (gFld 0 1) (pVar 0)) (pC (.int 1))) aNil))) (tEnv n ks ws w l none) = .ok (.bl true) := (pA_ok (ts := [.int w, .int 0, .int ((n : Int) - 1)]) rfl).trans (between_in (os := []) bw.1 (by omega))
    have e2 : pA (gCall m_is_between) (aCons (pVar 2) (aCons (pC (.int 0)) (aCons (p2 gSub (p1 (gFld 0 1) (pVar 0)) (pC (.int 1))) aNil))) (tEnv n ks ws w l none) = .ok (.bl true) := (pA_ok (ts := [.int l, .int 0, .int ((n : Int) - 1)]) rfl).trans (between_in (os := []) bl.1 (by omega))
    unfold pOr
    rw [p1_ok e1]
    show (p1 gNot _ _ : PRes) = _
    rw [p1_ok e2]; rfl
  have d1 : pFz (pA (gCall m_Tree_due) (aConsI 0 4 (pVar 0) aNil)) (tEnv n ks ws w l none) = .ok (.lst .frz (t.due.map pT)) := by
    refine pFz_ok (t := .lst .own (t.due.map pT)) ?_ ?_
    · refine (pA_ok (ts := [trT .tmp .own n (slotsP n) ks ws]) ?_).trans (a.due rfl)
      refine (aConsI_pos rfl).trans ?_
      exact aCons_ok (t := trT .tmp .own n (slotsP n) ks ws) (ts := []) rfl rfl
    · rfl
  have c2 : pAnd (p2 gNotIn (pA dTup (aCons (pVar 1) (aCons (pVar 2) aNil))) (pVar 3)) (p2 gNotIn (pA dTup (aCons (pVar 2) (aCons (pVar 1) aNil))) (pVar 3)) (tEnv n ks ws w l (some (.lst .frz (t.due.map pT)))) = .ok (.bl false) := by
    have e1 : p2 gNotIn (pA dTup (aCons (pVar 1) (aCons (pVar 2) aNil))) (pVar 3) (tEnv n ks ws w l (some (.lst .frz (t.due.map pT)))) = .ok (.bl (!decide ((w, l) ∈ t.due))) := (p2_ok (t := .tup .frz [.int w, .int l]) (u := .lst .frz (t.due.map pT)) rfl rfl).trans in_due
    have e2 : p2 gNotIn (pA dTup (aCons (pVar 2) (aCons (pVar 1) aNil))) (pVar 3) (tEnv n ks ws w l (some (.lst .frz (t.due.map pT)))) = .ok (.bl (!decide ((l, w) ∈ t.due))) := (p2_ok (t := .tup .frz [.int l, .int w]) (u := .lst .frz (t.due.map pT)) rfl rfl).trans in_due
    unfold pAnd
    rw [e1, e2]
    rcases hd with h | h
    · rw [decide_eq_true h]; rfl
    · rw [decide_eq_true h]
      cases decide ((w, l) ∈ t.due) <;> rfl
  have ln := a.line hn
  refine defM_next (e := tEnv n (putD ks ws l (.int w)).1 (putD ks ws l (.int w)).2 w l (some (.lst .frz (t.due.map pT)))) rfl ?_ rfl
  refine (seq_next (if_f c1)).trans ?_
  refine (seq_next (mAsg_ok (iP_ok d1) (e2 := tEnv n ks ws w l (some (.lst .frz (t.due.map pT)))) rfl)).trans ?_
  refine (seq_next (if_f c2)).trans ?_
  have st : setAny (.dK .own ks ws) (.int l) (.int w) = some (.dK .own (putD ks ws l (.int w)).1 (putD ks ws l (.int w)).2) := by
    show (if (T.fz (.int w) && decide (ws.length < Cd.line)) = true then some (T.dK .own (putD ks ws l (.int w)).1 (putD ks ws l (.int w)).2) else none) = _
    rw [decide_eq_true ln]; rfl
  have s2 : storeAt (lvFld 0 2 (lvVar 0)) (fun t => setAny t (.int l) (.int w)) (tEnv n ks ws w l (some (.lst .frz (t.due.map pT)))) = some (tEnv n (putD ks ws l (.int w)).1 (putD ks ws l (.int w)).2 w l (some (.lst .frz (t.due.map pT)))) := by
    show (match setAny (.dK .own ks ws) (.int l) (.int w) with | some t' => some (putPath (tEnv n ks ws w l (some (.lst .frz (t.due.map pT)))) 0 [.fd 2] t') | none => none) = _
    rw [st]; rfl
  show SRes.ofE (storeAt (lvFld 0 2 (lvVar 0)) (fun t => setAny t (.int l) (.int w)) (tEnv n ks ws w l (some (.lst .frz (t.due.map pT))))) = _
  rw [s2]; rfl
def loseTo (β : Int → Option Int) (l w : Int) : Int → Option Int := fun p => if p = l then some w else β p
theorem At.play {n : Nat} {t : G} {ks : List Int} {ws : List T} {β : Int → Option Int} (a : At n t ks ws β) {x y : Int} (hd : (x, y) ∈ t.due) (s : Bool) :
    At n (G.play x y s t) (putD ks ws (if s then x else y) (.int (if s then y else x))).1 (putD ks ws (if s then x else y) (.int (if s then y else x))).2 (loseTo β (if s then x else y) (if s then y else x)) := by
  obtain ⟨pm, wf⟩ := G.play_losses (s := s) a.wf a.nd hd
  have fr := G.due_free a.nd hd
  have free : ∀ w, ((if s then x else y), w) ∉ t.losses := fun w => by cases s with
    | true => exact (fr w).1
    | false => exact (fr w).2
  have e0 : (if s then (x, y) else (y, x)) = ((if s then x else y), (if s then y else x)) := by cases s <;> rfl
  rw [e0] at pm
  generalize (if s then x else y) = l at *
  generalize (if s then y else x) = w at *
  have nk : ks.any (fun x => decide (x = l)) = false := by
    cases q : ks.any (fun x => decide (x = l)) with
    | false => rfl
    | true =>
      exfalso
      have : ∀ {ks : List Int} {ws : List T}, ks.length = ws.length → ks.any (fun x => decide (x = l)) = true → look ks ws l ≠ none := by
        intro ks
        induction ks with
        | nil => intro ws _ h; cases h
        | cons b ks ih =>
          intro ws hl h
          cases ws with
          | nil => cases hl
          | cons v ws =>
            show (if b = l then some v else look ks ws l) ≠ none
            by_cases c : b = l
            · rw [if_pos c]; exact fun z => nomatch z
            · rw [if_neg c]
              rw [List.any_cons, decide_eq_false c, Bool.false_or] at h
              exact ih (by simpa using hl) h
      have h1 := this a.kl q
      rw [a.lk l] at h1
      cases e : β l with
      | none => rw [e] at h1; exact h1 rfl
      | some v => exact free v ((a.bt l v).mp e)
  have pu : putD ks ws l (.int w) = (ks ++ [l], ws ++ [.int w]) := by unfold putD; rw [nk]; rfl
  refine ⟨fun p => ?_, fun p v => ?_, by rw [G.play_leaves]; exact a.lv, by rw [G.play_perf]; exact a.pf, by rw [G.play_players]; exact a.nd, by rw [G.play_players]; exact a.bd, by rw [G.play_players]; exact a.ln, by rw [G.play_players]; exact a.al, wf, ?_, ?_⟩
  · rw [look_put a.kl]
    unfold loseTo
    by_cases c : p = l
    · rw [if_pos c, if_pos c]; rfl
    · rw [if_neg c, if_neg c]; exact a.lk p
  · rw [pm.mem_iff, List.mem_cons]
    unfold loseTo
    by_cases c : p = l
    · subst c
      rw [if_pos rfl]
      constructor
      · intro h; cases h; exact .inl rfl
      · intro h
        rcases h with h | h
        · cases h; rfl
        · exact (free v h).elim
    · rw [if_neg c, a.bt p v]
      constructor
      · exact .inr
      · intro h
        rcases h with h | h
        · cases h; exact (c rfl).elim
        · exact h
  · rw [pu]; simp [a.kl]
  · rw [pu, pm.length_eq]; simp [a.wl]
/-- who is left -/
def leftP (n : Nat) (β : Int → Option Int) : List Int := ((List.range n).map fun (k : Nat) => (k : Int)).filter fun p => (β p).isNone
abbrev lEnv (f : Fl) (n : Int) (S : List (Option Int)) (ks : List Int) (ws : List T) : Env := [some (trT f .own n S ks ws), none]
theorem left_go {f : Fl} (hf : f = .bor) {n : Int} {S : List (Option Int)} {ks : List Int} {ws : List T} {β : Int → Option Int} (h : Lk ks ws β) : ∀ ps : List Int,
    lcGo (.nm 1) (p2 gNotIn (pVar 1) (p1 (gFld 0 2) (pVar 0))) (pVar 1) (lEnv f n S ks ws) (ps.map T.int) = .ok ((ps.filter fun p => (β p).isNone).map T.int)
  | [] => rfl
  | p :: ps => by
    subst hf
    have ih := left_go (f := .bor) rfl (n := n) (S := S) h ps
    have c : p2 gNotIn (pVar 1) (p1 (gFld 0 2) (pVar 0)) [some (trT .bor .own n S ks ws), some (.int p)] = .ok (.bl (β p).isNone) := by
      show (match (match some ((look ks ws p).map (T.of .bor)) with | some o => some o.isSome | none => none) with | some b => PRes.ok (.bl (!b)) | none => .bad) = _
      rw [h p]
      cases β p <;> rfl
    rw [List.map_cons, List.filter_cons]
    cases q : (β p).isNone with
    | true =>
      rw [q] at c
      rw [if_pos rfl, List.map_cons]
      exact lcGo_t (e1 := [some (trT .bor .own n S ks ws), some (.int p)]) rfl c rfl rfl ih
    | false =>
      rw [q] at c
      rw [if_neg (by decide)]
      exact (lcGo_f (e1 := [some (trT .bor .own n S ks ws), some (.int p)]) rfl c).trans ih
theorem left_eq {n : Nat} {S : List (Option Int)} {ks : List Int} {ws : List T} {β : Int → Option Int} (h : Lk ks ws β) (hn : n ≤ 16) : m_Tree_left [trT .bor .own n S ks ws] = .ret (.lst .own ((leftP n β).map T.int)) [] := by
  refine defM_ret (e := lEnv .bor n S ks ws) rfl (mRet_ok (iP_ok ?_)) rfl
  refine pLc_ok (ts := ((List.range n).map fun (k : Nat) => (k : Int)).map T.int) (us := (leftP n β).map T.int) ?_ (left_go rfl h _)
  show (if inR (n : Int) && inR0 (n : Int) then LRes.ok (rngT 0 (n : Int).toNat) else .bad) = _
  have e1 : inR (n : Int) = true := by unfold inR; rw [Bool.and_eq_true, decide_eq_true_eq, decide_eq_true_eq]; omega
  have e2 : inR0 (n : Int) = true := by unfold inR0; rw [decide_eq_true_eq]; omega
  rw [e1, e2, if_pos (by rfl)]
  unfold rngT
  rw [List.map_map]
  refine congrArg LRes.ok ?_
  show (List.range n).map _ = _
  refine List.map_congr_left fun k _ => ?_
  show T.int (0 + (k : Int)) = T.int k
  rw [Int.zero_add]
theorem At.left {n : Nat} {t : G} {ks : List Int} {ws : List T} {β : Int → Option Int} (a : At n t ks ws β) (hn : n ≤ 16) {f : Fl} (hf : f.lend = .bor) : gCall m_Tree_left [trT f .own n (slotsP n) ks ws] = .ok (.lst .own ((leftP n β).map T.int)) := by
  refine gCall_ok (t := .lst .own ((leftP n β).map T.int)) (os := []) ?_
  show m_Tree_left [T.ins f.lend 0 _ _] = _
  rw [hf]; exact left_eq a.lk hn
def oT : Option Int → T | none => .non | some w => .int w
theorem At.beaten {n : Nat} {t : G} {ks : List Int} {ws : List T} {β : Int → Option Int} (a : At n t ks ws β) {f : Fl} (hf : f.lend = .bor) (p : Int) : gCall m_Tree_beaten_by [trT f .own n (slotsP n) ks ws, .int p] = .ok (oT (β p)) := by
  have e : m_Tree_beaten_by [trT .bor .own n (slotsP n) ks ws, .int p] = .ret (oT (β p)) [] := by
    refine defM_ret (e := [some (trT .bor .own n (slotsP n) ks ws), some (.int p)]) rfl (mRet_ok (iP_ok ?_)) rfl
    show (match some ((look ks ws p).map (T.of .bor)) with | some (some t) => PRes.ok t | some none => .ok .non | none => .bad) = _
    rw [a.lk p]
    cases β p <;> rfl
  have e2 : (oT (β p)).back = oT (β p) := by cases β p <;> rfl
  rw [← e2]
  refine gCall_ok (t := oT (β p)) (os := []) ?_
  show m_Tree_beaten_by [T.ins f.lend 0 _ _, .int p] = _
  rw [hf]; exact e
def champP (l : List Int) : T := match l with | [p] => .int p | _ => .non
theorem At.champ {n : Nat} {t : G} {ks : List Int} {ws : List T} {β : Int → Option Int} (a : At n t ks ws β) (hn : n ≤ 16) {f : Fl} (hf : f.lend = .bor) : gCall m_Tree_champion [trT f .own n (slotsP n) ks ws] = .ok (champP (leftP n β)) := by
  have fz : pFz (pA (gCall m_Tree_left) (aConsI 0 7 (pVar 0) aNil)) [some (trT .bor .own n (slotsP n) ks ws), none] = .ok (.lst .frz ((leftP n β).map T.int)) := by
    refine pFz_ok (t := .lst .own ((leftP n β).map T.int)) ?_ rfl
    refine (pA_ok (ts := [trT .bor .own n (slotsP n) ks ws]) ?_).trans (a.left hn rfl)
    refine (aConsI_pos rfl).trans ?_
    exact aCons_ok (t := trT .bor .own n (slotsP n) ks ws) (ts := []) rfl rfl
  have e : m_Tree_champion [trT .bor .own n (slotsP n) ks ws] = .ret (champP (leftP n β)) [] := by
    refine defM_ret (e := [some (trT .bor .own n (slotsP n) ks ws), some (.lst .frz ((leftP n β).map T.int))]) rfl ?_ rfl
    have st1 : mAsg (.nm 1) (iP (pFz (pA (gCall m_Tree_left) (aConsI 0 7 (pVar 0) aNil)))) [some (trT .bor .own n (slotsP n) ks ws), none] = .next [some (trT .bor .own n (slotsP n) ks ws), some (.lst .frz ((leftP n β).map T.int))] := mAsg_ok (iP_ok fz) rfl
    refine Eq.trans (seq_next st1) ?_
    generalize leftP n β = l
    match l with
    | [] => rfl
    | [p] => rfl
    | p :: q :: l =>
      have c : p2 gEq (pA gLen1 (aCons (pVar 1) aNil)) (pC (.int 1)) [some (trT .bor .own n (slotsP n) ks ws), some (.lst .frz ((p :: q :: l).map T.int))] = .ok (.bl false) := by
        show PRes.ok (.bl ((((((p :: q :: l).map T.int).length : Nat) : Int)) == 1)) = _
        have : ((((((p :: q :: l).map T.int).length : Nat) : Int)) == 1) = false := by
          rw [beq_eq_false_iff_ne]
          simp only [List.length_map, List.length_cons]
          omega
        rw [this]
      refine (seq_next (if_f c)).trans ?_
      rfl
  have e2 : (champP (leftP n β)).back = champP (leftP n β) := by unfold champP; split <;> rfl
  rw [← e2]
  refine gCall_ok (t := champP (leftP n β)) (os := []) ?_
  show m_Tree_champion [T.ins f.lend 0 _ _] = _
  rw [hf]; exact e
end Cd

set_option linter.all false
set_option maxRecDepth 100000
/-! k33: the lesser one wins. -/
namespace Cd
theorem mulL {i j : Int} (h1 : -(2 ^ 64) < i) (h2 : i < 2 ^ 64) : gMul (.int i) (.int j) = .ok (.int (i * j)) := if_pos (.inl ⟨h1, h2⟩)
theorem mulR {i j : Int} (h1 : -(2 ^ 64) < j) (h2 : j < 2 ^ 64) : gMul (.int i) (.int j) = .ok (.int (i * j)) := if_pos (.inr ⟨h1, h2⟩)
theorem modI {i j : Int} (h : j ≠ 0) : gMod (.int i) (.int j) = .ok (.int (i.fmod j)) := if_neg h
theorem ixOf_int {n : Nat} {i : Int} (h1 : 0 ≤ i) (h2 : i < n) : ixOf n i = some i.toNat := by unfold ixOf; rw [if_pos h1, if_pos h2]
theorem gIx_kon {ns : List Int} {i : Int} (h1 : 0 ≤ i) (h2 : i < ns.length) : ∃ v, gIx (.kon true (ns.map T.int)) (.int i) = .ok (.int v) := by
  have l : i.toNat < ns.length := by omega
  refine ⟨ns[i.toNat], ?_⟩
  show (match ixOf (ns.map T.int).length i with | some j => ofO (((ns.map T.int)[j]?).map (T.of .frz)) | none => .bad) = _
  rw [List.length_map, ixOf_int h1 h2]
  show ofO (((ns.map T.int)[i.toNat]?).map (T.of .frz)) = _
  rw [List.getElem?_map, List.getElem?_eq_getElem l]; rfl
theorem drawn_eq {ns : List Int} {k size : Int} (hk : 0 ≤ k) (hk2 : k < 2 ^ 30) (hs : 1 ≤ size) : ∃ d : Nat, (d : Int) < size ∧ m__law_drawn [.kon true (ns.map T.int), .int k, .int size] = .ret (.int d) [] := by
  -- the last line, whatever the number
  have fin : ∀ z : Int, ∃ d : Nat, (d : Int) < size ∧ p2 gMod (p2 gDiv (p2 gMod (pVar 3) (pC (.int 2147483647))) (pC (.int 3))) (pVar 2) [some (.kon true (ns.map T.int)), some (.int k), some (.int size), some (.int z)] = .ok (.int d) := by
    intro z
    refine ⟨(((z.fmod 2147483647).fdiv 3).fmod size).toNat, ?_, ?_⟩
    · have h1 := Int.fmod_nonneg_of_pos ((z.fmod 2147483647).fdiv 3) (b := size) (by omega)
      have h2 := Int.fmod_lt_of_pos ((z.fmod 2147483647).fdiv 3) (b := size) (by omega)
      omega
    · have h1 := Int.fmod_nonneg_of_pos ((z.fmod 2147483647).fdiv 3) (b := size) (by omega)
      show (gMod (.int ((z.fmod 2147483647).fdiv 3)) (.int size)) = _
      rw [modI (by omega), Int.toNat_of_nonneg h1]
  have s1 : p2 gAdd (p2 gMul (p2 gMul (pC (.int 104729)) (pVar 1)) (pVar 1)) (pC (.int 48271)) [some (.kon true (ns.map T.int)), some (.int k), some (.int size), none] = .ok (.int (104729 * k * k + 48271)) := by
    refine (p2_ok (t := .int (104729 * k * k)) (u := .int 48271) ?_ rfl).trans rfl
    refine (p2_ok (t := .int (104729 * k)) (u := .int k) ?_ rfl).trans (mulR (by omega) (by omega))
    exact (p2_ok (t := .int 104729) (u := .int k) rfl rfl).trans (mulL (by decide) (by decide))
  have c : p2 gGt (pA gLen1 (aCons (pVar 0) aNil)) (pC (.int 0)) [some (.kon true (ns.map T.int)), some (.int k), some (.int size), some (.int (104729 * k * k + 48271))] = .ok (.bl (decide (0 < (ns.length : Int)))) := by
    show PRes.ok (T.bl (decide ((0 : Int) < (((ns.map T.int).length : Nat) : Int)))) = _
    rw [List.length_map]
  by_cases hl : ns = []
  · subst hl
    obtain ⟨d, hd, e⟩ := fin (104729 * k * k + 48271)
    refine ⟨d, hd, ?_⟩
    refine defM_ret (e := [some (.kon true []), some (.int k), some (.int size), some (.int (104729 * k * k + 48271))]) rfl ?_ rfl
    refine (seq_next (mAsg_ok (g := .nm 3) (iP_ok s1) rfl)).trans ?_
    refine (seq_next (if_f c)).trans ?_
    exact mRet_ok (iP_ok e)
  · have pos : 0 < ns.length := List.length_pos_iff.mpr hl
    have b1 := Int.fmod_nonneg_of_pos k (b := (ns.length : Int)) (by omega)
    have b2 := Int.fmod_lt_of_pos k (b := (ns.length : Int)) (by omega)
    obtain ⟨v, hv⟩ := gIx_kon (ns := ns) b1 b2
    have s2 : p2 gAdd (pVar 3) (p2 gMul (p2 gMod (p2 gIx (pVar 0) (p2 gMod (pVar 1) (pA gLen1 (aCons (pVar 0) aNil)))) (p2 gPow (pC (.int 10)) (pC (.int 40)))) (p2 gAdd (p2 gMul (pC (.int 2)) (pVar 1)) (pC (.int 69621)))) [some (.kon true (ns.map T.int)), some (.int k), some (.int size), some (.int (104729 * k * k + 48271))] = .ok (.int (104729 * k * k + 48271 + v.fmod (10 ^ 40) * (2 * k + 69621))) := by
      refine (p2_ok (t := .int (104729 * k * k + 48271)) (u := .int (v.fmod (10 ^ 40) * (2 * k + 69621))) rfl ?_).trans rfl
      refine (p2_ok (t := .int (v.fmod (10 ^ 40))) (u := .int (2 * k + 69621)) ?_ ?_).trans (mulR (by omega) (by omega))
      · refine (p2_ok (t := .int v) (u := .int (10 ^ 40)) ?_ rfl).trans (modI (by decide))
        refine (p2_ok (t := .kon true (ns.map T.int)) (u := .int (k.fmod (ns.length : Int))) rfl ?_).trans hv
        refine (p2_ok (t := .int k) (u := .int ((ns.length : Nat) : Int)) rfl ?_).trans (modI (by omega))
        show PRes.ok (T.int (((ns.map T.int).length : Nat) : Int)) = _
        rw [List.length_map]
      · refine (p2_ok (t := .int (2 * k)) (u := .int 69621) ?_ rfl).trans rfl
        exact (p2_ok (t := .int 2) (u := .int k) rfl rfl).trans (mulL (by decide) (by decide))
    obtain ⟨d, hd, e⟩ := fin (104729 * k * k + 48271 + v.fmod (10 ^ 40) * (2 * k + 69621))
    refine ⟨d, hd, ?_⟩
    refine defM_ret (e := [some (.kon true (ns.map T.int)), some (.int k), some (.int size), some (.int (104729 * k * k + 48271 + v.fmod (10 ^ 40) * (2 * k + 69621)))]) rfl ?_ rfl
    refine (seq_next (mAsg_ok (g := .nm 3) (iP_ok s1) rfl)).trans ?_
    have st2 : mIf (iP (p2 gGt (pA gLen1 (aCons (pVar 0) aNil)) (pC (.int 0)))) (mAsg (.nm 3) (iP (p2 gAdd (pVar 3) (p2 gMul (p2 gMod (p2 gIx (pVar 0) (p2 gMod (pVar 1) (pA gLen1 (aCons (pVar 0) aNil)))) (p2 gPow (pC (.int 10)) (pC (.int 40)))) (p2 gAdd (p2 gMul (pC (.int 2)) (pVar 1)) (pC (.int 69621))))))) mNext [some (.kon true (ns.map T.int)), some (.int k), some (.int size), some (.int (104729 * k * k + 48271))] =
        .next [some (.kon true (ns.map T.int)), some (.int k), some (.int size), some (.int (104729 * k * k + 48271 + v.fmod (10 ^ 40) * (2 * k + 69621)))] := by
      refine (if_t (by rw [c, decide_eq_true (by omega)])).trans ?_
      exact mAsg_ok (g := .nm 3) (iP_ok s2) rfl
    refine (seq_next st2).trans ?_
    exact mRet_ok (iP_ok e)
theorem drawn_call {ns : List Int} {k size : Int} (hk : 0 ≤ k) (hk2 : k < 2 ^ 30) (hs : 1 ≤ size) : ∃ d : Nat, (d : Int) < size ∧ gCall m__law_drawn [.kon true (ns.map T.int), .int k, .int size] = .ok (.int d) := by
  obtain ⟨d, h, e⟩ := drawn_eq (ns := ns) hk hk2 hs
  exact ⟨d, h, gCall_ok (t := .int d) (os := []) e⟩
def lo (a b : Int) : Int := if b < a then b else a
def hi (a b : Int) : Int := if b > a then b else a
def sizeI (p : Int) : Int := if p < 1 then 1 else if p < 2 then 2 else if p < 4 then 4 else if p < 8 then 8 else 16
def good (a b : Int) : Bool := (decide (a + b + 1 = 2) || decide (a + b + 1 = 4) || decide (a + b + 1 = 8) || decide (a + b + 1 = 16)) && decide (2 * lo a b < a + b) && decide (sizeI (hi a b) - 1 - hi a b = lo a b)
namespace G
def lesser : Option Int → Option Int → Option Int
  | none, y => y
  | x, none => x
  | some a, some b => some (lo a b)
def minP : G → Option Int
  | leaf x => x
  | node l r _ => lesser l.minP r.minP
def chk : G → Bool
  | leaf _ => true
  | node l r _ => l.chk && r.chk && (match l.minP, r.minP with | some a, some b => good a b | _, _ => true)
def AllMin : G → Prop
  | leaf _ => True
  | node l r res => l.AllMin ∧ r.AllMin ∧ ∀ a b, l.win = some (some a) → r.win = some (some b) → (res = some false → a < b) ∧ (res = some true → b < a)
theorem win_min : ∀ {t : G} {x : Option Int}, t.AllMin → t.win = some x → x = t.minP
  | leaf _, x, _, h => by cases h; rfl
  | node l r res, x, ⟨h1, h2, h3⟩, h => by
    obtain ⟨a, b, el, er, ho⟩ := win_node h
    have ea := win_min h1 el
    have eb := win_min h2 er
    show x = lesser l.minP r.minP
    rw [← ea, ← eb]
    rcases out_cases ho with ⟨rfl, rfl⟩ | ⟨rfl, rfl⟩ | ⟨p, q, rfl, rfl, ⟨rs, rfl⟩ | ⟨rs, rfl⟩⟩
    · rfl
    · cases x <;> rfl
    · have := (h3 p q el er).1 rs
      show some p = some (lo p q)
      unfold lo; rw [if_neg (by omega)]
    · have := (h3 p q el er).2 rs
      show some q = some (lo p q)
      unfold lo; rw [if_pos this]
theorem play_minP {a b : Int} {s : Bool} : ∀ {t : G}, (play a b s t).minP = t.minP
  | leaf _ => rfl
  | node l r res => by
    show (if ownDue l.win r.win res = [(a, b)] then node l r (some s) else node (play a b s l) (play a b s r) res).minP = _
    split
    · rfl
    · show lesser (play a b s l).minP (play a b s r).minP = _
      rw [play_minP, play_minP]; rfl
theorem play_chk {a b : Int} {s : Bool} : ∀ {t : G}, (play a b s t).chk = t.chk
  | leaf _ => rfl
  | node l r res => by
    show (if ownDue l.win r.win res = [(a, b)] then node l r (some s) else node (play a b s l) (play a b s r) res).chk = _
    split
    · rfl
    · show ((play a b s l).chk && (play a b s r).chk && _) = _
      rw [play_chk, play_chk, play_minP, play_minP]; rfl
theorem due_good : ∀ {t : G} {a b : Int}, t.AllMin → t.chk = true → (a, b) ∈ t.due → good a b = true
  | node l r res, a, b, ⟨h1, h2, _⟩, c, h => by
    have c' : (l.chk && r.chk && (match l.minP, r.minP with | some a, some b => good a b | _, _ => true)) = true := c
    rw [Bool.and_eq_true, Bool.and_eq_true] at c'
    have h' : (a, b) ∈ ownDue l.win r.win res ++ (l.due ++ r.due) := h
    rcases List.mem_append.mp h' with z | z
    · obtain ⟨el, er, _, _⟩ := ownDue_cases z
      have c3 := c'.2
      rw [← win_min h1 el, ← win_min h2 er] at c3
      exact c3
    · rcases List.mem_append.mp z with z | z
      · exact due_good h1 c'.1.1 z
      · exact due_good h2 c'.1.2 z
theorem loss_good : ∀ {t : G} {p w : Int}, t.AllMin → t.chk = true → (p, w) ∈ t.losses → sizeI p - 1 - p = w
  | node l r res, p, w, ⟨h1, h2, h3⟩, c, h => by
    have c' : (l.chk && r.chk && (match l.minP, r.minP with | some a, some b => good a b | _, _ => true)) = true := c
    rw [Bool.and_eq_true, Bool.and_eq_true] at c'
    have h' : (p, w) ∈ ownLoss l.win r.win res ++ (l.losses ++ r.losses) := h
    rcases List.mem_append.mp h' with z | z
    · obtain ⟨a, b, el, er, q⟩ := ownLoss_cases z
      have c3 := c'.2
      rw [← win_min h1 el, ← win_min h2 er] at c3
      have c4 : good a b = true := c3
      unfold good at c4
      rw [Bool.and_eq_true, decide_eq_true_eq] at c4
      have c5 := c4.2
      unfold lo hi at c5
      rcases q with ⟨rs, rfl, rfl⟩ | ⟨rs, rfl, rfl⟩
      · have := (h3 w p el er).1 rs
        rw [if_pos (show p > w by omega), if_neg (by omega)] at c5
        exact c5
      · have := (h3 p w el er).2 rs
        rw [if_neg (by omega), if_pos this] at c5
        exact c5
    · rcases List.mem_append.mp z with z | z
      · exact loss_good h1 c'.1.1 z
      · exact loss_good h2 c'.1.2 z
theorem play_allmin {a b : Int} : ∀ {t : G}, t.AllMin → t.WF → t.players.Nodup → (a, b) ∈ t.due → (play a b (decide (b < a)) t).AllMin
  | node l r res, ⟨h1, h2, h3⟩, wf, nd, h => by
    rw [players_node] at nd
    obtain ⟨n1, n2, n3⟩ := List.nodup_append.mp nd
    obtain ⟨w1, w2, w3⟩ := wf
    have wp : play a b (decide (b < a)) (node l r res) = if ownDue l.win r.win res = [(a, b)] then node l r (some (decide (b < a))) else node (play a b (decide (b < a)) l) (play a b (decide (b < a)) r) res := rfl
    have h' : (a, b) ∈ ownDue l.win r.win res ++ (l.due ++ r.due) := h
    rcases List.mem_append.mp h' with z | z
    · obtain ⟨el, er, rfl, e4⟩ := ownDue_cases z
      rw [wp, if_pos e4]
      refine ⟨h1, h2, fun x y ex ey => ?_⟩
      rw [el] at ex; rw [er] at ey
      cases ex; cases ey
      have ne : a ≠ b := fun q => n3 a (win_mem el) b (win_mem er) q
      constructor
      · intro q
        have : decide (b < a) = false := Option.some.inj q
        have := of_decide_eq_false this
        omega
      · intro q
        have : decide (b < a) = true := Option.some.inj q
        exact of_decide_eq_true this
    · have rn : l.win = none ∨ r.win = none := (List.mem_append.mp z).elim (fun z => .inl (not_done z)) fun z => .inr (not_done z)
      have re : res = none := by
        cases res with
        | none => rfl
        | some s =>
          obtain ⟨x, y, e1, e2⟩ := w3 (fun z => nomatch z)
          rcases rn with z | z
          · rw [z] at e1; cases e1
          · rw [z] at e2; cases e2
      subst re
      have hn : ¬ ownDue l.win r.win none = [(a, b)] := fun z => by
        obtain ⟨el, er, _⟩ := ownDue_cases (a := a) (b := b) (by rw [z]; exact List.mem_cons_self ..)
        rcases rn with q | q
        · rw [q] at el; cases el
        · rw [q] at er; cases er
      rw [wp, if_neg hn]
      rcases List.mem_append.mp z with z | z
      · have hr : (a, b) ∉ r.due := fun q => n3 a (due_mem z).1 a (due_mem q).1 rfl
        refine ⟨play_allmin h1 w1 n1 z, by rw [play_id hr]; exact h2, fun _ _ _ _ => ⟨fun q => (by cases q), fun q => by cases q⟩⟩
      · have hl : (a, b) ∉ l.due := fun q => n3 a (due_mem q).1 a (due_mem z).1 rfl
        refine ⟨by rw [play_id hl]; exact h1, play_allmin h2 w2 n2 z, fun _ _ _ _ => ⟨fun q => (by cases q), fun q => by cases q⟩⟩
theorem build_allmin : ∀ {k : Nat} {S : List (Option Int)}, (build k S).AllMin
  | 0, [] => trivial
  | 0, _ :: _ => trivial
  | k + 1, S => ⟨build_allmin, build_allmin, fun _ _ _ _ => ⟨fun q => (by cases q), fun q => by cases q⟩⟩
end G
theorem chk_all : ∀ n ∈ List.range' 1 16, ((tree0 n).chk && decide ((tree0 n).minP = some 0)) = true := by decide +kernel
/-- a state of k33 -/
structure Mn (n j : Nat) (t : G) (ks : List Int) (ws : List T) (β : Int → Option Int) : Prop where
  at_ : At n t ks ws β
  am : t.AllMin
  ch : t.chk = true
  mp : t.minP = some 0
  ct : t.losses.length = j
theorem Mn.start {n : Nat} (h1 : 1 ≤ n) (h2 : n ≤ 16) : Mn n 0 (tree0 n) [] [] fun _ => none := by
  have c := chk_all n (in16 h1 h2)
  rw [Bool.and_eq_true, decide_eq_true_eq] at c
  refine ⟨At.start h1 h2, G.build_allmin, c.1, c.2, ?_⟩
  rw [← (At.start h1 h2).wl]; rfl
theorem Mn.due {n j : Nat} {t : G} {ks : List Int} {ws : List T} {β : Int → Option Int} (m : Mn n j t ks ws β) (hn : 1 ≤ n) : (j + 1 < n → t.due ≠ []) ∧ (j + 1 = n → t.due = [] ∧ t.win = some (some 0)) := by
  have c := G.count m.at_.wf
  have hl := m.at_.ln
  have hc := m.ct
  constructor
  · intro h e
    have w := G.due_done e
    cases q : t.win with
    | none => exact w q
    | some x =>
      cases x with
      | none => have := c.2.1 q; omega
      | some x => have := c.1 x q; omega
  · intro h
    cases q : t.win with
    | none => have := c.2.2 q; omega
    | some x =>
      refine ⟨G.done_due q, ?_⟩
      rw [G.win_min m.am q, m.mp]
theorem Mn.play {n j : Nat} {t : G} {ks : List Int} {ws : List T} {β : Int → Option Int} (m : Mn n j t ks ws β) {a b : Int} (hd : (a, b) ∈ t.due) :
    ∃ t' β', Mn n (j + 1) t' (putD ks ws (hi a b) (.int (lo a b))).1 (putD ks ws (hi a b) (.int (lo a b))).2 β' := by
  have p := m.at_.play hd (decide (b < a))
  have ne : a ≠ b := fun q => by
    have g := G.due_good m.am m.ch hd
    unfold good lo at g
    rw [Bool.and_eq_true, Bool.and_eq_true, decide_eq_true_eq] at g
    have := g.1.2
    rw [if_neg (by omega)] at this
    omega
  have e1 : (if decide (b < a) = true then a else b) = hi a b := by
    unfold hi
    by_cases c : b < a
    · rw [if_pos (by rw [decide_eq_true c]), if_neg (by omega)]
    · rw [if_neg (by rw [decide_eq_false c]; decide), if_pos (by omega)]
  have e2 : (if decide (b < a) = true then b else a) = lo a b := by
    unfold lo
    by_cases c : b < a
    · rw [if_pos (by rw [decide_eq_true c]), if_pos c]
    · rw [if_neg (by rw [decide_eq_false c]; decide), if_neg c]
  rw [e1, e2] at p
  refine ⟨_, _, p, G.play_allmin m.am m.at_.wf m.at_.nd hd, by rw [G.play_chk]; exact m.ch, by rw [G.play_minP]; exact m.mp, ?_⟩
  rw [(G.play_losses m.at_.wf m.at_.nd hd).1.length_eq, List.length_cons, m.ct]
end Cd

set_option linter.all false
set_option maxRecDepth 100000
namespace Cd
abbrev rTgt : Tg := .tp ((.nm 6) :: ((.nm 7) :: []))
abbrev rInner : M := (mIf (iP (pOr (p2 gNotIn (p2 gAdd (p2 gAdd (pVar 6) (pVar 7)) (pC (.int 1))) (pA dTup (aCons (pC (.int 2)) (aCons (pC (.int 4)) (aCons (pC (.int 8)) (aCons (pC (.int 16)) aNil)))))) (p2 gGe (p2 gMul (pC (.int 2)) (pA gMin2 (aCons (pVar 6) (aCons (pVar 7) aNil)))) (p2 gAdd (pVar 6) (pVar 7))))) (mRet (iP (pC (.bl false)))) mNext)
abbrev rCond : P := (pOr (p2 gNotIn (p2 gAdd (p2 gAdd (pVar 6) (pVar 7)) (pC (.int 1))) (pA dTup (aCons (pC (.int 2)) (aCons (pC (.int 4)) (aCons (pC (.int 8)) (aCons (pC (.int 16)) aNil)))))) (p2 gGe (p2 gMul (pC (.int 2)) (pA gMin2 (aCons (pVar 6) (aCons (pVar 7) aNil)))) (p2 gAdd (pVar 6) (pVar 7))))
abbrev rb0 : M := (mAsg (.nm 5) (iP (pFz (pA (gCall m_Tree_due) (aConsI 0 4 (pVar 3) aNil)))))
abbrev rb1 : M := (mIf (iP (pOr (p1 gNot (p1 (gIsi "list") (pVar 5))) (p2 gEq (pVar 5) (pA dLst aNil)))) (mRet (iP (pC (.bl false)))) mNext)
abbrev rb3 : M := (mAsg (.tp ((.nm 6) :: ((.nm 7) :: []))) (iP (p2 gIx (pVar 5) (pA (gCall m__law_drawn) (aCons (pVar 0) (aCons (p2 gAdd (p2 gMul (pC (.int 20)) (pVar 1)) (pVar 4)) (aCons (pA gLen1 (aCons (pVar 5) aNil)) aNil)))))))
abbrev rb4 : M := (mDrop (iMeth 0 6 (pVar 3) m_Tree_told [0] [.own 3, .val (iP (pA gMin2 (aCons (pVar 6) (aCons (pVar 7) aNil)))), .val (iP (pA gMax2 (aCons (pVar 6) (aCons (pVar 7) aNil))))]))
abbrev rb2 : M := mFor (sList (pVar 5)) rTgt rInner [6, 7]
abbrev rBody : M := mSeq rb0 (mSeq rb1 (mSeq rb2 (mSeq rb3 rb4)))
abbrev r0 : M := (mAsg (.nm 3) (iP (pA (pMake 0 m_Tree___init__) (aCons (pVar 2) aNil))))
abbrev r1 : M := mFor (sRng1 (p2 gSub (pVar 2) (pC (.int 1)))) (.nm 4) rBody [4, 5, 6, 7]
abbrev r2 : M := (mIf (iP (pOr (p2 gNe (pA (gCall m_Tree_due) (aConsI 0 4 (pVar 3) aNil)) (pA dLst aNil)) (pOr (p2 gNe (pA (gCall m_Tree_champion) (aConsI 0 9 (pVar 3) aNil)) (pC (.int 0))) (pOr (p2 gNe (pA (gCall m_Tree_left) (aConsI 0 7 (pVar 3) aNil)) (pA dLst (aCons (pC (.int 0)) aNil))) (p2 gIsNot2 (pA (gCall m_Tree_beaten_by) (aConsI 0 8 (pVar 3) (aCons (pC (.int 0)) aNil))) (pC .non)))))) (mRet (iP (pC (.bl false)))) mNext)
abbrev r2c : P := (pOr (p2 gNe (pA (gCall m_Tree_due) (aConsI 0 4 (pVar 3) aNil)) (pA dLst aNil)) (pOr (p2 gNe (pA (gCall m_Tree_champion) (aConsI 0 9 (pVar 3) aNil)) (pC (.int 0))) (pOr (p2 gNe (pA (gCall m_Tree_left) (aConsI 0 7 (pVar 3) aNil)) (pA dLst (aCons (pC (.int 0)) aNil))) (p2 gIsNot2 (pA (gCall m_Tree_beaten_by) (aConsI 0 8 (pVar 3) (aCons (pC (.int 0)) aNil))) (pC .non)))))
abbrev r3b : M := (mIf (iP (p2 gNe (pA (gCall m_Tree_beaten_by) (aConsI 0 8 (pVar 3) (aCons (pVar 8) aNil))) (p2 gSub (p2 gSub (pA (gCall m__law_size) (aCons (pVar 8) aNil)) (pC (.int 1))) (pVar 8)))) (mRet (iP (pC (.bl false)))) mNext)
abbrev r3c : P := (p2 gNe (pA (gCall m_Tree_beaten_by) (aConsI 0 8 (pVar 3) (aCons (pVar 8) aNil))) (p2 gSub (p2 gSub (pA (gCall m__law_size) (aCons (pVar 8) aNil)) (pC (.int 1))) (pVar 8)))
abbrev r3 : M := mFor (sRng2 (pC (.int 1)) (pVar 2)) (.nm 8) r3b [8]
abbrev r4 : M := (mRet (iP (pC (.bl true))))
abbrev RE (ns : List Int) (turn : Int) (n : Nat) (tr : T) (x4 x5 x6 x7 x8 : Option T) : Env := [some (.kon true (ns.map T.int)), some (.int turn), some (.int n), some tr, x4, x5, x6, x7, x8]
theorem good_parts {a b : Int} (g : good a b = true) : (a + b + 1 = 2 ∨ a + b + 1 = 4 ∨ a + b + 1 = 8 ∨ a + b + 1 = 16) ∧ 2 * lo a b < a + b ∧ sizeI (hi a b) - 1 - hi a b = lo a b := by
  unfold good at g
  simp only [Bool.and_eq_true, Bool.or_eq_true, decide_eq_true_eq] at g
  obtain ⟨⟨h1, h2⟩, h3⟩ := g
  exact ⟨by omega, h2, h3⟩
theorem cond_eq {ns : List Int} {turn : Int} {n : Nat} {tr : T} {x4 x5 x8 : Option T} {a b : Int} (g : good a b = true) : rCond (RE ns turn n tr x4 x5 (some (.int a)) (some (.int b)) x8) = .ok (.bl false) := by
  obtain ⟨h1, h2, _⟩ := good_parts g
  have e1 : p2 gNotIn (p2 gAdd (p2 gAdd (pVar 6) (pVar 7)) (pC (.int 1))) (pA dTup (aCons (pC (.int 2)) (aCons (pC (.int 4)) (aCons (pC (.int 8)) (aCons (pC (.int 16)) aNil))))) (RE ns turn n tr x4 x5 (some (.int a)) (some (.int b)) x8) = .ok (.bl false) := by
    refine (p2_ok (t := .int (a + b + 1)) (u := .tup .frz [.int 2, .int 4, .int 8, .int 16]) rfl rfl).trans ?_
    rcases h1 with h | h | h | h <;> (rw [h]; rfl)
  have e2 : p2 gGe (p2 gMul (pC (.int 2)) (pA gMin2 (aCons (pVar 6) (aCons (pVar 7) aNil)))) (p2 gAdd (pVar 6) (pVar 7)) (RE ns turn n tr x4 x5 (some (.int a)) (some (.int b)) x8) = .ok (.bl false) := by
    refine (p2_ok (t := .int (2 * lo a b)) (u := .int (a + b)) ((p2_ok (t := .int 2) (u := .int (lo a b)) rfl rfl).trans (mulL (by decide) (by decide))) rfl).trans ?_
    show PRes.ok (.bl (decide (a + b ≤ 2 * lo a b))) = _
    rw [decide_eq_false (by omega)]
  show (pOr _ _ _ : PRes) = _
  unfold pOr
  rw [e1, e2]; rfl
theorem inner_go {ns : List Int} {turn : Int} {n : Nat} {tr : T} {x4 x5 x8 : Option T} : ∀ {ds : List (Int × Int)}, (∀ c ∈ ds, good c.1 c.2 = true) →
    forGo rTgt rInner [6, 7] (ds.map pT) (RE ns turn n tr x4 x5 none none x8) = .next (RE ns turn n tr x4 x5 none none x8)
  | [], _ => rfl
  | c :: ds, h => by
    rw [List.map_cons]
    have st : rInner (RE ns turn n tr x4 x5 (some (.int c.1)) (some (.int c.2)) x8) = .next (RE ns turn n tr x4 x5 (some (.int c.1)) (some (.int c.2)) x8) := (if_f (cond_eq (h c (List.mem_cons_self ..)))).trans rfl
    refine (forGo_n (e1 := RE ns turn n tr x4 x5 (some (.int c.1)) (some (.int c.2)) x8) rfl st).trans ?_
    exact inner_go fun c hc => h c (List.mem_cons_of_mem _ hc)
theorem turn_eq {ns : List Int} {turn : Int} {n j : Nat} {t : G} {ks : List Int} {ws : List T} {β : Int → Option Int} (m : Mn n j t ks ws β) (h1 : 1 ≤ n) (h2 : n ≤ 16) (hj : j + 1 < n) (ht : 0 ≤ turn) (ht2 : turn < 1000) :
    ∃ ks' ws' t' β' y4 y5 y6 y7, Mn n (j + 1) t' ks' ws' β' ∧ rBody (RE ns turn n (trT .own .own n (slotsP n) ks ws) (some (.int j)) none none none none) = .next (RE ns turn n (trT .own .own n (slotsP n) ks' ws') y4 y5 y6 y7 none) := by
  have ne := (m.due h1).1 hj
  have d1 : pFz (pA (gCall m_Tree_due) (aConsI 0 4 (pVar 3) aNil)) (RE ns turn n (trT .own .own n (slotsP n) ks ws) (some (.int j)) none none none none) = .ok (.lst .frz (t.due.map pT)) := by
    refine pFz_ok (t := .lst .own (t.due.map pT)) ?_ rfl
    refine (pA_ok (ts := [trT .tmp .own n (slotsP n) ks ws]) ?_).trans (m.at_.due rfl)
    refine (aConsI_pos rfl).trans ?_
    exact aCons_ok (t := trT .tmp .own n (slotsP n) ks ws) (ts := []) rfl rfl
  have c1 : pOr (p1 gNot (p1 (gIsi "list") (pVar 5))) (p2 gEq (pVar 5) (pA dLst aNil)) (RE ns turn n (trT .own .own n (slotsP n) ks ws) (some (.int j)) (some (.lst .frz (t.due.map pT))) none none none) = .ok (.bl false) := by
    have e1 : p1 gNot (p1 (gIsi "list") (pVar 5)) (RE ns turn n (trT .own .own n (slotsP n) ks ws) (some (.int j)) (some (.lst .frz (t.due.map pT))) none none none) = .ok (.bl false) := rfl
    have e2 : p2 gEq (pVar 5) (pA dLst aNil) (RE ns turn n (trT .own .own n (slotsP n) ks ws) (some (.int j)) (some (.lst .frz (t.due.map pT))) none none none) = .ok (.bl false) := by
      refine (p2_ok (t := .lst .frz (t.due.map pT)) (u := .lst .own []) rfl rfl).trans ?_
      have s : shal 20 (.lst .frz (t.due.map pT)) = true := by
        show (t.due.map pT).all (shal 19) = true
        rw [List.all_map, List.all_eq_true]; exact fun c _ => rfl
      have q : eqB (.lst .frz (t.due.map pT)) (.lst .own []) = false := by
        cases e : t.due with
        | nil => exact absurd e ne
        | cons c ds => rfl
      show (if (shal 20 (.lst .frz (t.due.map pT)) && shal 20 (.lst .own [])) = true then PRes.ok (.bl (eqB (.lst .frz (t.due.map pT)) (.lst .own []))) else .bad) = _
      rw [s, q]; rfl
    unfold pOr
    rw [e1, e2]; rfl
  have gd : ∀ c ∈ t.due, good c.1 c.2 = true := fun c hc => G.due_good (a := c.1) (b := c.2) m.am m.ch hc
  have f2 : rb2 (RE ns turn n (trT .own .own n (slotsP n) ks ws) (some (.int j)) (some (.lst .frz (t.due.map pT))) none none none) = .next (RE ns turn n (trT .own .own n (slotsP n) ks ws) (some (.int j)) (some (.lst .frz (t.due.map pT))) none none none) := by
    refine (mFor_ok (ts := t.due.map pT) ?_).trans (inner_go gd)
    show LRes.ok ((t.due.map pT).map (T.of .frz)) = _
    rw [pT_of]
  have len : 0 < t.due.length := List.length_pos_iff.mpr ne
  obtain ⟨d, hd, ed⟩ := drawn_call (ns := ns) (k := 20 * turn + j) (size := (t.due.length : Int)) (by omega) (by omega) (by omega)
  have ld : d < t.due.length := by omega
  obtain ⟨a, b, eab⟩ : ∃ a b, t.due[d] = (a, b) := ⟨_, _, rfl⟩
  have mem : (a, b) ∈ t.due := by rw [← eab]; exact List.getElem_mem ld
  have a3 : rb3 (RE ns turn n (trT .own .own n (slotsP n) ks ws) (some (.int j)) (some (.lst .frz (t.due.map pT))) none none none) = .next (RE ns turn n (trT .own .own n (slotsP n) ks ws) (some (.int j)) (some (.lst .frz (t.due.map pT))) (some (.int a)) (some (.int b)) none) := by
    refine mAsg_ok (t := pT (a, b)) (e1 := RE ns turn n (trT .own .own n (slotsP n) ks ws) (some (.int j)) (some (.lst .frz (t.due.map pT))) none none none) (iP_ok ?_) rfl
    refine (p2_ok (t := .lst .frz (t.due.map pT)) (u := .int d) rfl ?_).trans ?_
    · refine (pA_ok (ts := [.kon true (ns.map T.int), .int (20 * turn + j), .int (t.due.length : Int)]) ?_).trans ed
      refine aCons_ok rfl (aCons_ok ?_ (aCons_ok ?_ rfl))
      · refine (p2_ok (t := .int (20 * turn)) (u := .int j) ((p2_ok (t := .int 20) (u := .int turn) rfl rfl).trans (mulL (by decide) (by decide))) rfl).trans rfl
      · show PRes.ok (T.int (((t.due.map pT).length : Nat) : Int)) = _
        rw [List.length_map]
    · show (match ixOf (t.due.map pT).length (d : Int) with | some j => ofO (((t.due.map pT)[j]?).map (T.of .frz)) | none => .bad) = _
      rw [List.length_map, ixOf_nat ld]
      show ofO (((t.due.map pT)[d]?).map (T.of .frz)) = _
      rw [List.getElem?_map, List.getElem?_eq_getElem ld, eab]; rfl
  obtain ⟨t', β', m'⟩ := m.play mem
  have dd : (lo a b, hi a b) ∈ t.due ∨ (hi a b, lo a b) ∈ t.due := by
    unfold lo hi
    by_cases c : b < a
    · rw [if_pos c, if_neg (by omega)]; exact .inr mem
    · rw [if_neg c]
      by_cases c2 : b > a
      · rw [if_pos c2]; exact .inl mem
      · have : a = b := by omega
        subst this
        rw [if_neg c2]; exact .inl mem
  have told := told_eq m.at_ h2 dd
  have a4 : rb4 (RE ns turn n (trT .own .own n (slotsP n) ks ws) (some (.int j)) (some (.lst .frz (t.due.map pT))) (some (.int a)) (some (.int b)) none) = .next (RE ns turn n (trT .own .own n (slotsP n) (putD ks ws (hi a b) (.int (lo a b))).1 (putD ks ws (hi a b) (.int (lo a b))).2) (some (.int j)) (some (.lst .frz (t.due.map pT))) (some (.int a)) (some (.int b)) none) := by
    refine mDrop_ok (t := .non) ?_
    refine (iMeth_pos rfl).trans ?_
    refine (iCall_ok (vs := [none, some (.int (lo a b)), some (.int (hi a b))]) (e0 := RE ns turn n (trT .own .own n (slotsP n) ks ws) (some (.int j)) (some (.lst .frz (t.due.map pT))) (some (.int a)) (some (.int b)) none) (ts := [trT .own .own n (slotsP n) ks ws, .int (lo a b), .int (hi a b)]) (os := [trT .own .own n (slotsP n) (putD ks ws (hi a b) (.int (lo a b))).1 (putD ks ws (hi a b) (.int (lo a b))).2]) (t := .non) rfl rfl rfl ?_).trans rfl
    exact told
  refine ⟨_, _, t', β', some (.int j), some (.lst .frz (t.due.map pT)), some (.int a), some (.int b), m', ?_⟩
  refine (seq_next (mAsg_ok (g := .nm 5) (iP_ok d1) (e2 := RE ns turn n (trT .own .own n (slotsP n) ks ws) (some (.int j)) (some (.lst .frz (t.due.map pT))) none none none) rfl)).trans ?_
  refine (seq_next ((if_f c1).trans rfl)).trans ?_
  refine (seq_next f2).trans ?_
  refine (seq_next a3).trans ?_
  exact a4
theorem outer_go {ns : List Int} {turn : Int} {n : Nat} (h1 : 1 ≤ n) (h2 : n ≤ 16) (ht : 0 ≤ turn) (ht2 : turn < 1000) : ∀ (m j : Nat) (t : G) (ks : List Int) (ws : List T) (β : Int → Option Int), Mn n j t ks ws β → j + m + 1 = n →
    ∃ ks' ws' t' β', Mn n (n - 1) t' ks' ws' β' ∧ forGo (.nm 4) rBody [4, 5, 6, 7] ((List.range' j m).map fun (i : Nat) => T.int i) (RE ns turn n (trT .own .own n (slotsP n) ks ws) none none none none none) = .next (RE ns turn n (trT .own .own n (slotsP n) ks' ws') none none none none none)
  | 0, j, t, ks, ws, β, mn, e => by
    have : j = n - 1 := by omega
    subst this
    exact ⟨ks, ws, t, β, mn, rfl⟩
  | m + 1, j, t, ks, ws, β, mn, e => by
    obtain ⟨ks1, ws1, t1, β1, y4, y5, y6, y7, mn1, st⟩ := turn_eq (ns := ns) (turn := turn) mn h1 h2 (by omega) ht ht2
    obtain ⟨ks2, ws2, t2, β2, mn2, go⟩ := outer_go h1 h2 ht ht2 m (j + 1) t1 ks1 ws1 β1 mn1 (by omega) (ns := ns) (turn := turn)
    refine ⟨ks2, ws2, t2, β2, mn2, ?_⟩
    rw [List.range'_succ, List.map_cons]
    refine (forGo_n (e1 := RE ns turn n (trT .own .own n (slotsP n) ks ws) (some (.int j)) none none none none) rfl st).trans ?_
    exact go
theorem rng_eq (lo m : Nat) : rngT (lo : Int) m = (List.range' lo m).map fun (i : Nat) => T.int i := by
  unfold rngT
  rw [List.range'_eq_map_range, List.map_map]
  refine List.map_congr_left fun k _ => ?_
  show T.int ((lo : Int) + (k : Int)) = T.int ((lo + k : Nat) : Int)
  rw [Int.natCast_add]
theorem size_eq {p : Int} (h0 : 0 ≤ p) (h1 : p < 16) : gCall m__law_size [.int p] = .ok (.int (sizeI p)) := by
  have : p = 0 ∨ p = 1 ∨ p = 2 ∨ p = 3 ∨ p = 4 ∨ p = 5 ∨ p = 6 ∨ p = 7 ∨ p = 8 ∨ p = 9 ∨ p = 10 ∨ p = 11 ∨ p = 12 ∨ p = 13 ∨ p = 14 ∨ p = 15 := by omega
  rcases this with h | h | h | h | h | h | h | h | h | h | h | h | h | h | h | h <;> (subst h; rfl)
theorem end_go {ns : List Int} {turn : Int} {n : Nat} {t : G} {ks : List Int} {ws : List T} {β : Int → Option Int} (mn : Mn n (n - 1) t ks ws β) (h1 : 1 ≤ n) (h2 : n ≤ 16) : ∀ (m j : Nat), 1 ≤ j → j + m ≤ n →
    forGo (.nm 8) r3b [8] ((List.range' j m).map fun (i : Nat) => T.int i) (RE ns turn n (trT .own .own n (slotsP n) ks ws) none none none none none) = .next (RE ns turn n (trT .own .own n (slotsP n) ks ws) none none none none none)
  | 0, j, _, _ => rfl
  | m + 1, j, hj, hm => by
    rw [List.range'_succ, List.map_cons]
    obtain ⟨w, hw⟩ := G.all_lost mn.at_.wf ((mn.due h1).2 (by omega)).2 (j : Int) (mn.at_.al j (by omega)) (by omega)
    have hs := G.loss_good mn.am mn.ch hw
    have hb := (mn.at_.bt j w).mpr hw
    have c : r3c (RE ns turn n (trT .own .own n (slotsP n) ks ws) none none none none (some (.int j))) = .ok (.bl false) := by
      refine (p2_ok (t := .int w) (u := .int (sizeI j - 1 - j)) ?_ ?_).trans ?_
      · refine (pA_ok (ts := [trT .tmp .own n (slotsP n) ks ws, .int j]) ?_).trans ?_
        · refine (aConsI_pos rfl).trans ?_
          exact aCons_ok (t := trT .tmp .own n (slotsP n) ks ws) (ts := [.int j]) rfl rfl
        · rw [mn.at_.beaten (f := .tmp) rfl, hb]; rfl
      · refine (p2_ok (t := .int (sizeI j - 1)) (u := .int j) ?_ rfl).trans rfl
        refine (p2_ok (t := .int (sizeI j)) (u := .int 1) ?_ rfl).trans rfl
        exact (pA_ok (ts := [.int j]) rfl).trans (size_eq (by omega) (by omega))
      · rw [hs]
        show PRes.ok (.bl (!(w == w))) = _
        rw [beq_self_eq_true]; rfl
    refine (forGo_n (e1 := RE ns turn n (trT .own .own n (slotsP n) ks ws) none none none none (some (.int j))) (e2 := RE ns turn n (trT .own .own n (slotsP n) ks ws) none none none none (some (.int j))) rfl ((if_f c).trans rfl)).trans ?_
    exact end_go mn h1 h2 m (j + 1) (by omega) (by omega)
theorem left_one {n : Nat} {t : G} {ks : List Int} {ws : List T} {β : Int → Option Int} (mn : Mn n (n - 1) t ks ws β) (h1 : 1 ≤ n) : leftP n β = [0] := by
  have w0 := ((mn.due h1).2 (by omega)).2
  have b0 : β 0 = none := by
    cases e : β 0 with
    | none => rfl
    | some w => exact absurd ((mn.at_.bt 0 w).mp e) (G.win_free mn.at_.nd w0)
  have others : ∀ k : Nat, k < n → k ≠ 0 → (β k).isNone = false := fun k hk h0 => by
    obtain ⟨w, hw⟩ := G.all_lost mn.at_.wf w0 (k : Int) (mn.at_.al k hk) (by omega)
    rw [(mn.at_.bt k w).mpr hw]; rfl
  unfold leftP
  obtain ⟨m, rfl⟩ : ∃ m, n = m + 1 := ⟨n - 1, by omega⟩
  rw [List.range_succ_eq_map, List.map_cons, List.filter_cons]
  have h0 : (β ((0 : Nat) : Int)).isNone = true := by
    show (β 0).isNone = true
    rw [b0]; rfl
  rw [if_pos h0]
  have rest : (List.map (fun (k : Nat) => (k : Int)) (List.map Nat.succ (List.range m))).filter (fun p => (β p).isNone) = [] := by
    rw [List.filter_eq_nil_iff]
    intro p hp
    obtain ⟨k, hk, rfl⟩ := List.mem_map.mp hp
    obtain ⟨i, hi, rfl⟩ := List.mem_map.mp hk
    rw [List.mem_range] at hi
    rw [others (i + 1) (by omega) (by omega)]
    decide
  rw [rest]; rfl
theorem right_eq {ns : List Int} {turn : Int} {n : Nat} (h1 : 1 ≤ n) (h2 : n ≤ 16) (ht : 0 ≤ turn) (ht2 : turn < 1000) : m__law_right [.kon true (ns.map T.int), .int turn, .int n] = .ret (.bl true) [] := by
  obtain ⟨ks, ws, t, β, mn, go⟩ := outer_go (ns := ns) (turn := turn) h1 h2 ht ht2 (n - 1) 0 (tree0 n) [] [] _ (Mn.start h1 h2) (by omega)
  have s0 : r0 (RE ns turn n .non none none none none none |>.set 3 none) = .next (RE ns turn n (trT .own .own n (slotsP n) [] []) none none none none none) := by
    refine mAsg_ok (g := .nm 3) (iP_ok ((pA_ok (ts := [.int n]) rfl).trans (made h1 h2))) rfl
  have s1 : r1 (RE ns turn n (trT .own .own n (slotsP n) [] []) none none none none none) = .next (RE ns turn n (trT .own .own n (slotsP n) ks ws) none none none none none) := by
    refine (mFor_ok (ts := (List.range' 0 (n - 1)).map fun (i : Nat) => T.int i) ?_).trans go
    show (if inR ((n : Int) - 1) && inR0 ((n : Int) - 1) then LRes.ok (rngT 0 ((n : Int) - 1).toNat) else .bad) = _
    have e1 : inR ((n : Int) - 1) = true := by unfold inR; rw [Bool.and_eq_true, decide_eq_true_eq, decide_eq_true_eq]; omega
    have e2 : inR0 ((n : Int) - 1) = true := by unfold inR0; rw [decide_eq_true_eq]; omega
    rw [e1, e2, if_pos (by rfl), show ((n : Int) - 1).toNat = n - 1 by omega]
    exact congrArg LRes.ok (rng_eq 0 (n - 1))
  have lf := left_one mn h1
  have dn := ((mn.due h1).2 (by omega)).1
  have w0 := ((mn.due h1).2 (by omega)).2
  have b0 : β 0 = none := by
    cases e : β 0 with
    | none => rfl
    | some w => exact absurd ((mn.at_.bt 0 w).mp e) (G.win_free mn.at_.nd w0)
  have self : ∀ m, isInsP 0 m (pVar 3 (RE ns turn n (trT .own .own n (slotsP n) ks ws) none none none none none)) = true → aConsI 0 m (pVar 3) aNil (RE ns turn n (trT .own .own n (slotsP n) ks ws) none none none none none) = .ok [trT .tmp .own n (slotsP n) ks ws] := fun m h => (aConsI_pos h).trans (aCons_ok (t := trT .tmp .own n (slotsP n) ks ws) (ts := []) rfl rfl)
  have c2 : r2c (RE ns turn n (trT .own .own n (slotsP n) ks ws) none none none none none) = .ok (.bl false) := by
    have e1 : p2 gNe (pA (gCall m_Tree_due) (aConsI 0 4 (pVar 3) aNil)) (pA dLst aNil) (RE ns turn n (trT .own .own n (slotsP n) ks ws) none none none none none) = .ok (.bl false) := by
      refine (p2_ok (t := .lst .own []) (u := .lst .own []) ?_ rfl).trans rfl
      refine (pA_ok (self 4 rfl)).trans ?_
      rw [mn.at_.due (f := .tmp) rfl, dn]; rfl
    have e2 : p2 gNe (pA (gCall m_Tree_champion) (aConsI 0 9 (pVar 3) aNil)) (pC (.int 0)) (RE ns turn n (trT .own .own n (slotsP n) ks ws) none none none none none) = .ok (.bl false) := by
      refine (p2_ok (t := .int 0) (u := .int 0) ?_ rfl).trans rfl
      refine (pA_ok (self 9 rfl)).trans ?_
      rw [mn.at_.champ h2 (f := .tmp) rfl, lf]; rfl
    have e3 : p2 gNe (pA (gCall m_Tree_left) (aConsI 0 7 (pVar 3) aNil)) (pA dLst (aCons (pC (.int 0)) aNil)) (RE ns turn n (trT .own .own n (slotsP n) ks ws) none none none none none) = .ok (.bl false) := by
      refine (p2_ok (t := .lst .own [.int 0]) (u := .lst .own [.int 0]) ?_ rfl).trans rfl
      refine (pA_ok (self 7 rfl)).trans ?_
      rw [mn.at_.left h2 (f := .tmp) rfl, lf]; rfl
    have e4 : p2 gIsNot2 (pA (gCall m_Tree_beaten_by) (aConsI 0 8 (pVar 3) (aCons (pC (.int 0)) aNil))) (pC .non) (RE ns turn n (trT .own .own n (slotsP n) ks ws) none none none none none) = .ok (.bl false) := by
      refine (p2_ok (t := .non) (u := .non) ?_ rfl).trans rfl
      refine (pA_ok (ts := [trT .tmp .own n (slotsP n) ks ws, .int 0]) ?_).trans ?_
      · refine (aConsI_pos rfl).trans ?_
        exact aCons_ok (t := trT .tmp .own n (slotsP n) ks ws) (ts := [.int 0]) rfl rfl
      · rw [mn.at_.beaten (f := .tmp) rfl, b0]; rfl
    show (pOr _ _ _ : PRes) = _
    unfold pOr
    rw [e1, e2, e3, e4]; rfl
  have s3 : r3 (RE ns turn n (trT .own .own n (slotsP n) ks ws) none none none none none) = .next (RE ns turn n (trT .own .own n (slotsP n) ks ws) none none none none none) := by
    refine (mFor_ok (ts := (List.range' 1 (n - 1)).map fun (i : Nat) => T.int i) ?_).trans (end_go mn h1 h2 (n - 1) 1 (by omega) (by omega))
    show (if inR 1 && inR (n : Int) && inR0 ((n : Int) - 1) then LRes.ok (rngT 1 ((n : Int) - 1).toNat) else .bad) = _
    have e0 : inR 1 = true := by decide
    have e1 : inR (n : Int) = true := by unfold inR; rw [Bool.and_eq_true, decide_eq_true_eq, decide_eq_true_eq]; omega
    have e2 : inR0 ((n : Int) - 1) = true := by unfold inR0; rw [decide_eq_true_eq]; omega
    rw [e0, e1, e2, if_pos (by rfl), show ((n : Int) - 1).toNat = n - 1 by omega]
    exact congrArg LRes.ok (rng_eq 1 (n - 1))
  refine defM_ret (e := RE ns turn n (trT .own .own n (slotsP n) ks ws) none none none none none) rfl ?_ rfl
  refine Eq.trans (seq_next s0) ?_
  refine Eq.trans (seq_next s1) ?_
  refine Eq.trans (seq_next ((if_f c2).trans rfl)) ?_
  refine Eq.trans (seq_next s3) ?_
  exact mRet_ok (iP_ok rfl)
end Cd

set_option linter.all false
set_option maxRecDepth 100000
namespace Cd
abbrev lwB : M := mIf (iP (p1 gNot (pA (gCall m__law_right) (aCons (pVar 0) (aCons (pVar 2) (aCons (p2 gAdd (pC (.int 1)) (p2 gMod (p2 gIx (pVar 1) (pVar 2)) (pC (.int 16)))) aNil)))))) (mRet (iP (pC (.bl false)))) mNext
theorem law_go {ns cs : List Int} (hc : cs.length ≤ 6) : ∀ (m j : Nat), j + m ≤ cs.length →
    forGo (.nm 2) lwB [2] ((List.range' j m).map fun (i : Nat) => T.int i) [some (.kon true (ns.map T.int)), some (.lst .frz (cs.map T.int)), none] = .next [some (.kon true (ns.map T.int)), some (.lst .frz (cs.map T.int)), none]
  | 0, _, _ => rfl
  | m + 1, j, h => by
    rw [List.range'_succ, List.map_cons]
    have lj : j < cs.length := by omega
    have b1 := Int.fmod_nonneg_of_pos cs[j] (b := 16) (by decide)
    have b2 := Int.fmod_lt_of_pos cs[j] (b := 16) (by decide)
    have en : (1 + (cs[j]).fmod 16 : Int) = (((1 + (cs[j]).fmod 16).toNat : Nat) : Int) := by omega
    have r := right_eq (ns := ns) (turn := (j : Int)) (n := (1 + (cs[j]).fmod 16).toNat) (by omega) (by omega) (by omega) (by omega)
    rw [← en] at r
    have c : p1 gNot (pA (gCall m__law_right) (aCons (pVar 0) (aCons (pVar 2) (aCons (p2 gAdd (pC (.int 1)) (p2 gMod (p2 gIx (pVar 1) (pVar 2)) (pC (.int 16)))) aNil)))) [some (.kon true (ns.map T.int)), some (.lst .frz (cs.map T.int)), some (.int j)] = .ok (.bl false) := by
      refine (p1_ok (t := .bl true) ?_).trans rfl
      refine (pA_ok (ts := [.kon true (ns.map T.int), .int j, .int (1 + (cs[j]).fmod 16)]) ?_).trans (gCall_ok (t := .bl true) (os := []) r)
      refine aCons_ok rfl (aCons_ok rfl (aCons_ok ?_ rfl))
      refine (p2_ok (t := .int 1) (u := .int ((cs[j]).fmod 16)) rfl ?_).trans rfl
      refine (p2_ok (t := .int cs[j]) (u := .int 16) ?_ rfl).trans (modI (by decide))
      show (match ixOf (cs.map T.int).length (j : Int) with | some j => ofO (((cs.map T.int)[j]?).map (T.of .frz)) | none => .bad) = _
      rw [List.length_map, ixOf_nat lj]
      show ofO (((cs.map T.int)[j]?).map (T.of .frz)) = _
      rw [List.getElem?_map, List.getElem?_eq_getElem lj]; rfl
    refine (forGo_n (e1 := [some (.kon true (ns.map T.int)), some (.lst .frz (cs.map T.int)), some (.int j)]) (e2 := [some (.kon true (ns.map T.int)), some (.lst .frz (cs.map T.int)), some (.int j)]) rfl ((if_f c).trans rfl)).trans ?_
    exact law_go hc m (j + 1) (by omega)
theorem law_end {ns cs : List Int} (hc : cs.length ≤ 6) : mFor (sRng1 (pA gLen1 (aCons (pVar 1) aNil))) (.nm 2) lwB [2] [some (.kon true (ns.map T.int)), some (.lst .frz (cs.map T.int)), none] = .next [some (.kon true (ns.map T.int)), some (.lst .frz (cs.map T.int)), none] := by
  refine (mFor_ok (ts := (List.range' 0 cs.length).map fun (i : Nat) => T.int i) ?_).trans (law_go hc cs.length 0 (by omega))
  show (if inR (((cs.map T.int).length : Nat) : Int) && inR0 (((cs.map T.int).length : Nat) : Int) then LRes.ok (rngT 0 ((((cs.map T.int).length : Nat) : Int)).toNat) else .bad) = _
  rw [List.length_map]
  have e1 : inR ((cs.length : Nat) : Int) = true := by unfold inR; rw [Bool.and_eq_true, decide_eq_true_eq, decide_eq_true_eq]; omega
  have e2 : inR0 ((cs.length : Nat) : Int) = true := by unfold inR0; rw [decide_eq_true_eq]; omega
  rw [e1, e2, if_pos (by rfl), Int.toNat_natCast]
  exact congrArg LRes.ok (rng_eq 0 cs.length)
theorem law_holds (ns : List Int) (_ : ns.length ≤ 63) : m_law [.kon true (ns.map T.int)] = .ret (.bl true) [] := by
  have cutE : pFz (pCut (pVar 0) poN (poS (pC (.int 6)))) [some (.kon true (ns.map T.int)), none, none] = .ok (.lst .frz ((ns.take 6).map T.int)) := by
    refine pFz_ok (t := .lst .own ((ns.take 6).map T.int)) ?_ ?_
    · have sh : (ns.map T.int).all (shal 0) = true := by rw [List.all_map, List.all_eq_true]; exact fun _ _ => rfl
      show (if (ns.map T.int).all (shal 0) = true then PRes.ok (.lst .own (cutL (ns.map T.int) none (some 6))) else .bad) = _
      rw [sh, if_pos rfl]
      have e : cutL (ns.map T.int) none (some 6) = (ns.take 6).map T.int := by
        show ((ns.map T.int).drop 0).take (min 6 (ns.map T.int).length - 0) = _
        rw [List.drop_zero, List.length_map, Nat.sub_zero, List.map_take]
        by_cases h : 6 ≤ ns.length
        · rw [Nat.min_eq_left h]
        · rw [Nat.min_eq_right (by omega), List.take_of_length_le (by rw [List.length_map]; exact Nat.le_refl _), List.take_of_length_le (by rw [List.length_map]; omega)]
      rw [e]
    · rfl
  have s1 : mAsg (.nm 1) (iP (pFz (pCut (pVar 0) poN (poS (pC (.int 6)))))) [some (.kon true (ns.map T.int)), none, none] = .next [some (.kon true (ns.map T.int)), some (.lst .frz ((ns.take 6).map T.int)), none] := mAsg_ok (iP_ok cutE) rfl
  have l6 : (ns.take 6).length ≤ 6 := by rw [List.length_take]; omega
  have s2 : ∃ cs : List Int, cs.length ≤ 6 ∧ mIf (iP (p2 gEq (pVar 1) (pA dLst aNil))) (mAsg (.nm 1) (iP (pFz (pA dLst (aCons (pC (.int 0)) aNil))))) mNext [some (.kon true (ns.map T.int)), some (.lst .frz ((ns.take 6).map T.int)), none] = .next [some (.kon true (ns.map T.int)), some (.lst .frz (cs.map T.int)), none] := by
    revert l6
    generalize ns.take 6 = cs
    intro l6
    have sh : shal 20 (.lst .frz (cs.map T.int)) = true := by
      show (cs.map T.int).all (shal 19) = true
      rw [List.all_map, List.all_eq_true]; exact fun _ _ => rfl
    have c : p2 gEq (pVar 1) (pA dLst aNil) [some (.kon true (ns.map T.int)), some (.lst .frz (cs.map T.int)), none] = .ok (.bl (eqB (.lst .frz (cs.map T.int)) (.lst .own []))) := by
      refine (p2_ok (t := .lst .frz (cs.map T.int)) (u := .lst .own []) rfl rfl).trans ?_
      show (if (shal 20 (.lst .frz (cs.map T.int)) && shal 20 (.lst .own [])) = true then PRes.ok (.bl (eqB (.lst .frz (cs.map T.int)) (.lst .own []))) else .bad) = _
      rw [sh]; rfl
    cases cs with
    | nil => exact ⟨[0], by decide, (if_t c).trans rfl⟩
    | cons x cs => exact ⟨x :: cs, l6, (if_f c).trans rfl⟩
  obtain ⟨cs, lc, s2⟩ := s2
  refine defM_ret (e := [some (.kon true (ns.map T.int)), some (.lst .frz (cs.map T.int)), none]) rfl ?_ rfl
  refine Eq.trans (seq_next s1) ?_
  refine Eq.trans (seq_next s2) ?_
  refine Eq.trans (seq_next (law_end lc)) ?_
  exact mRet_ok (iP_ok rfl)
end Cd

set_option Elab.async false
set_option linter.all false
set_option maxRecDepth 100000
namespace Cd
open PySem PySem.Spec PyProof.Rows L2
def top (i : Nat) : Stmt := PySem.Challenge.pw_cupdraw_k33_whole_lesser_ones_win.main.body.getD i (.Pass ⟨0, 0, 0, 0⟩)
abbrev s_is_whole : Stmt := top 5
abbrev s_Tree_comes_out : Stmt := inClass (top 11) 1
abbrev s_Tree_slot_of : Stmt := inClass (top 11) 3
abbrev s_Tree_left : Stmt := inClass (top 11) 5
abbrev s_Tree_beaten_by : Stmt := inClass (top 11) 6
abbrev s__law_drawn : Stmt := top 13
abbrev s__law_size : Stmt := top 14
abbrev s_is_between : Stmt := top 6
abbrev s_Tree_champion : Stmt := inClass (top 11) 7
abbrev s_slots_of : Stmt := top 8
abbrev s_Tree___init__ : Stmt := inClass (top 11) 0
abbrev s_Tree_due : Stmt := inClass (top 11) 2
abbrev s_Tree_told : Stmt := inClass (top 11) 4
abbrev s__law_right : Stmt := top 15
abbrev s_law : Stmt := top 16
theorem boot_bool_ : bootBuiltins "bool" = some (.type "bool") := by decide +kernel
theorem boot_int_ : bootBuiltins "int" = some (.type "int") := by decide +kernel
theorem boot_isinstance_ : bootBuiltins "isinstance" = some (.builtin "isinstance") := by decide +kernel
theorem boot_len_ : bootBuiltins "len" = some (.builtin "len") := by decide +kernel
theorem boot_list_ : bootBuiltins "list" = some (.type "list") := by decide +kernel
theorem boot_max_ : bootBuiltins "max" = some (.builtin "max") := by decide +kernel
theorem boot_min_ : bootBuiltins "min" = some (.builtin "min") := by decide +kernel
theorem boot_sorted_ : bootBuiltins "sorted" = some (.builtin "sorted") := by decide +kernel
abbrev AN : List Str := ["slots", "many", "beaten", "comes_out", "due", "slot_of", "told", "left", "beaten_by", "champion", "__init__", "append", "get", "index"]
abbrev NN (K : PySem.W.Frag) (cls : Nat → Addr) : Nm := ⟨K, cls, attOf AN⟩
structure Txt (K : PySem.W.Frag) (cls : Nat → Addr) (mg : Str → Option Value) (f_is_whole f_Tree_comes_out f_Tree_slot_of f_Tree_left f_Tree_beaten_by f__law_drawn f__law_size f_is_between f_Tree_champion f_slots_of f_Tree___init__ f_Tree_due f_Tree_told f__law_right f_law : Addr) (d_is_whole d_Tree_comes_out d_Tree_slot_of d_Tree_left d_Tree_beaten_by d__law_drawn d__law_size d_is_between d_Tree_champion d_slots_of d_Tree___init__ d_Tree_due d_Tree_told d__law_right d_law : FuncData) (u_OPEN : Value) : Prop where
  inj : ∀ a b, (NN K cls).att a = (NN K cls).att b → a = b
  fn_is_whole : Fun K "is_whole" "is_whole" s_is_whole f_is_whole d_is_whole
  b_is_whole : Binds K d_is_whole ["thing"] []
  g_is_whole : mg "is_whole" = some (.ref f_is_whole)
  k_is_whole : PySem.W.keepIn K (.ref f_is_whole) = true
  fn_Tree_comes_out : Fun K "comes_out" "Tree.comes_out" s_Tree_comes_out f_Tree_comes_out d_Tree_comes_out
  b_Tree_comes_out : Binds K d_Tree_comes_out ["self", "one", "other", "found"] []
  fn_Tree_slot_of : Fun K "slot_of" "Tree.slot_of" s_Tree_slot_of f_Tree_slot_of d_Tree_slot_of
  b_Tree_slot_of : Binds K d_Tree_slot_of ["self", "pair"] []
  fn_Tree_left : Fun K "left" "Tree.left" s_Tree_left f_Tree_left d_Tree_left
  b_Tree_left : Binds K d_Tree_left ["self"] []
  fn_Tree_beaten_by : Fun K "beaten_by" "Tree.beaten_by" s_Tree_beaten_by f_Tree_beaten_by d_Tree_beaten_by
  b_Tree_beaten_by : Binds K d_Tree_beaten_by ["self", "player"] []
  fn__law_drawn : Fun K "_law_drawn" "_law_drawn" s__law_drawn f__law_drawn d__law_drawn
  b__law_drawn : Binds K d__law_drawn ["_law_script", "_law_k", "_law_size_here"] []
  g__law_drawn : mg "_law_drawn" = some (.ref f__law_drawn)
  k__law_drawn : PySem.W.keepIn K (.ref f__law_drawn) = true
  fn__law_size : Fun K "_law_size" "_law_size" s__law_size f__law_size d__law_size
  b__law_size : Binds K d__law_size ["_law_player"] []
  g__law_size : mg "_law_size" = some (.ref f__law_size)
  k__law_size : PySem.W.keepIn K (.ref f__law_size) = true
  fn_is_between : Fun K "is_between" "is_between" s_is_between f_is_between d_is_between
  b_is_between : Binds K d_is_between ["thing", "low", "high"] []
  g_is_between : mg "is_between" = some (.ref f_is_between)
  k_is_between : PySem.W.keepIn K (.ref f_is_between) = true
  fn_Tree_champion : Fun K "champion" "Tree.champion" s_Tree_champion f_Tree_champion d_Tree_champion
  b_Tree_champion : Binds K d_Tree_champion ["self"] []
  fn_slots_of : Fun K "slots_of" "slots_of" s_slots_of f_slots_of d_slots_of
  b_slots_of : Binds K d_slots_of ["n"] []
  g_slots_of : mg "slots_of" = some (.ref f_slots_of)
  k_slots_of : PySem.W.keepIn K (.ref f_slots_of) = true
  fn_Tree___init__ : Fun K "__init__" "Tree.__init__" s_Tree___init__ f_Tree___init__ d_Tree___init__
  b_Tree___init__ : Binds K d_Tree___init__ ["self", "n"] []
  fn_Tree_due : Fun K "due" "Tree.due" s_Tree_due f_Tree_due d_Tree_due
  b_Tree_due : Binds K d_Tree_due ["self"] []
  fn_Tree_told : Fun K "told" "Tree.told" s_Tree_told f_Tree_told d_Tree_told
  b_Tree_told : Binds K d_Tree_told ["self", "winner", "loser"] []
  fn__law_right : Fun K "_law_right" "_law_right" s__law_right f__law_right d__law_right
  b__law_right : Binds K d__law_right ["_law_script", "_law_turn", "_law_n"] []
  g__law_right : mg "_law_right" = some (.ref f__law_right)
  k__law_right : PySem.W.keepIn K (.ref f__law_right) = true
  fn_law : Fun K "law" "law" s_law f_law d_law
  b_law : Binds K d_law ["_law_script"] []
  g_law : mg "law" = some (.ref f_law)
  k_law : PySem.W.keepIn K (.ref f_law) = true
  cl_Tree : Cls K (cls 0)
  g_Tree : mg "Tree" = some (.ref (cls 0))
  mk_Tree : Mk K (cls 0) f_Tree___init__
  no_Tree_beaten : NoAttr K (cls 0) "beaten"
  no_Tree_many : NoAttr K (cls 0) "many"
  no_Tree_slots : NoAttr K (cls 0) "slots"
  mt_Tree_comes_out : Meth K (cls 0) "comes_out" f_Tree_comes_out
  mt_Tree_due : Meth K (cls 0) "due" f_Tree_due
  mt_Tree_slot_of : Meth K (cls 0) "slot_of" f_Tree_slot_of
  mt_Tree_told : Meth K (cls 0) "told" f_Tree_told
  mt_Tree_left : Meth K (cls 0) "left" f_Tree_left
  mt_Tree_beaten_by : Meth K (cls 0) "beaten_by" f_Tree_beaten_by
  mt_Tree_champion : Meth K (cls 0) "champion" f_Tree_champion
  bm_Tree_slot_of : BMeth K (cls 0) "slot_of" f_Tree_slot_of
  x_NoSize : PySem.W.excIn K (cls 2) [.type "ValueError", .type "Exception", .type "BaseException", .type "object"] "ValueError.__new__" = true
  g_NoSize : mg "NoSize" = some (.ref (cls 2))
  k_NoSize : PySem.W.keepIn K (.ref (cls 2)) = true
  eb_NoSize : PySem.W.subIn K (.ref (cls 2)) (.type "BaseException") = some true
  et_NoSize : PySem.W.typeIn K (.ref (cls 2)) = some (.type "type")
  x_NotDue : PySem.W.excIn K (cls 3) [.type "ValueError", .type "Exception", .type "BaseException", .type "object"] "ValueError.__new__" = true
  g_NotDue : mg "NotDue" = some (.ref (cls 3))
  k_NotDue : PySem.W.keepIn K (.ref (cls 3)) = true
  eb_NotDue : PySem.W.subIn K (.ref (cls 3)) (.type "BaseException") = some true
  et_NotDue : PySem.W.typeIn K (.ref (cls 3)) = some (.type "type")
  n_bool : mg "bool" = none
  n_int : mg "int" = none
  n_isinstance : mg "isinstance" = none
  n_len : mg "len" = none
  n_list : mg "list" = none
  n_max : mg "max" = none
  n_min : mg "min" = none
  n_range : mg "range" = none
  n_sorted : mg "sorted" = none
  g_OPEN : mg "OPEN" = some u_OPEN
  r_OPEN : RelV (.int (-1)) u_OPEN
section
variable {P : Program} {w : World} {K : PySem.W.Frag} {cls : Nat → Addr} {mg : Str → Option Value} {base : Heap} {f_is_whole f_Tree_comes_out f_Tree_slot_of f_Tree_left f_Tree_beaten_by f__law_drawn f__law_size f_is_between f_Tree_champion f_slots_of f_Tree___init__ f_Tree_due f_Tree_told f__law_right f_law : Addr} {d_is_whole d_Tree_comes_out d_Tree_slot_of d_Tree_left d_Tree_beaten_by d__law_drawn d__law_size d_is_between d_Tree_champion d_slots_of d_Tree___init__ d_Tree_due d_Tree_told d__law_right d_law : FuncData} {u_OPEN : Value}
theorem sc_is_whole : FnScope ["thing"] ["thing"] (defScope s_is_whole) := ⟨rfl, rfl, rfl, by decide +kernel, rfl, by decide +kernel, by decide +kernel⟩
theorem ok_is_whole (T : Txt K cls mg f_is_whole f_Tree_comes_out f_Tree_slot_of f_Tree_left f_Tree_beaten_by f__law_drawn f__law_size f_is_between f_Tree_champion f_slots_of f_Tree___init__ f_Tree_due f_Tree_told f__law_right f_law d_is_whole d_Tree_comes_out d_Tree_slot_of d_Tree_left d_Tree_beaten_by d__law_drawn d__law_size d_is_between d_Tree_champion d_slots_of d_Tree___init__ d_Tree_due d_Tree_told d__law_right d_law u_OPEN) : FnOk P w K mg base (L2.CX P w) 1 f_is_whole d_is_whole ["thing"] (spD (NN K cls) 1 [] m_is_whole) := by
  refine def_ok (N := NN K cls) T.fn_is_whole sc_is_whole rfl rfl (by decide) fun cdv A outer s H E c => ⟨_, (pss_one (ps_ret (pe_and (pe_callB (isiK (K := K)) (by rfl) T.n_isinstance (boot_isinstance_) (pa_cons (pv 0) (pa_cons (pe_bltn (v := .ty "int") (by rfl) T.n_int (boot_int_) rfl) pa_nil))) (pe_one (pe_not (pe_callB (isiK (K := K)) (by rfl) T.n_isinstance (boot_isinstance_) (pa_cons (pv 0) (pa_cons (pe_bltn (v := .ty "bool") (by rfl) T.n_bool (boot_bool_) rfl) pa_nil)))))))), ?_⟩
  exact (does_ret (does_iP (does_andV (does_isi (by decide) does_var) (does_notV (does_isi (by decide) does_var)))))
theorem sc_Tree_comes_out : FnScope ["self", "one", "other", "found"] ["self", "one", "other", "found"] (defScope s_Tree_comes_out) := ⟨rfl, rfl, rfl, by decide +kernel, rfl, by decide +kernel, by decide +kernel⟩
theorem ok_Tree_comes_out (T : Txt K cls mg f_is_whole f_Tree_comes_out f_Tree_slot_of f_Tree_left f_Tree_beaten_by f__law_drawn f__law_size f_is_between f_Tree_champion f_slots_of f_Tree___init__ f_Tree_due f_Tree_told f__law_right f_law d_is_whole d_Tree_comes_out d_Tree_slot_of d_Tree_left d_Tree_beaten_by d__law_drawn d__law_size d_is_between d_Tree_champion d_slots_of d_Tree___init__ d_Tree_due d_Tree_told d__law_right d_law u_OPEN) : FnOk P w K mg base (L2.CX P w) 1 f_Tree_comes_out d_Tree_comes_out ["self", "one", "other", "found"] (spD (NN K cls) 4 [3] m_Tree_comes_out) := by
  refine def_ok (N := NN K cls) T.fn_Tree_comes_out sc_Tree_comes_out rfl rfl (by decide) fun cdv A outer s H E c => ⟨_, (pss_cons (ps_if (pt_cmpR op_isN (pv 1) pe_non (nomark _)) (pss_one (ps_ret (pv 2))) pss_nil)
    (pss_cons (ps_if (pt_cmpR op_isN (pv 2) pe_non (nomark _)) (pss_one (ps_ret (pv 1))) pss_nil)
    (pss_cons (ps_if ((pw_or (pt_cmpR (eqK (K := K) (by exact hu64 c.room)) (pv 1) (pe_glob (by rfl) T.g_OPEN T.r_OPEN) (nomark _)) (pw_or1 (pt_cmpR (eqK (K := K) (by exact hu64 c.room)) (pv 2) (pe_glob (by rfl) T.g_OPEN T.r_OPEN) (nomark _))))).pt (pss_one (ps_ret (pe_glob (by rfl) T.g_OPEN T.r_OPEN))) pss_nil)
    (pss_cons (ps_if (pt_cmpR (eqK (K := K) (by exact hu64 c.room)) (pe_dget1 (by exact hu1 c.room) (fldK (K := K) (pv 0)) (pv 1) ⟨rfl, rfl, rfl, rfl⟩) (pv 2) (nomark _)) (pss_one (ps_ret (pv 2))) pss_nil)
    (pss_cons (ps_if (pt_cmpR (eqK (K := K) (by exact hu64 c.room)) (pe_dget1 (by exact hu1 c.room) (fldK (K := K) (pv 0)) (pv 2) ⟨rfl, rfl, rfl, rfl⟩) (pv 1) (nomark _)) (pss_one (ps_ret (pv 1))) pss_nil)
    (pss_cons (ps_expr (bmK (K := K) PySem.F.plainAttrs_list PySem.F.slot_list_append PySem.F.type_list_append mt_append (pv 3) (pa_cons (pe_tup (pa_cons (pv 1) (pa_cons (pv 2) pa_nil))) pa_nil)))
    (pss_one (ps_ret (pe_glob (by rfl) T.g_OPEN T.r_OPEN))))))))), ?_⟩
  exact (does_seq (does_if (does_jP (does_test (does_op2 (fun _ => v_is2) does_var (does_c fun _ _ _ => ⟨rfl, rfl⟩)))) (does_ret (does_iP does_var)) does_next)
    (does_seq (does_if (does_jP (does_test (does_op2 (fun _ => v_is2) does_var (does_c fun _ _ _ => ⟨rfl, rfl⟩)))) (does_ret (does_iP does_var)) does_next)
    (does_seq (does_if (does_jP (does_or (does_test (does_op2 (fun _ => v_eq) does_var (does_c fun _ _ _ => ⟨rfl, rfl⟩))) (does_test (does_op2 (fun _ => v_eq) does_var (does_c fun _ _ _ => ⟨rfl, rfl⟩))))) (does_ret (does_iP (does_c fun _ _ _ => ⟨rfl, rfl⟩))) does_next)
    (does_seq (does_if (does_jP (does_test (does_op2 (fun _ => v_eq) (does_get1 (does_fld T.inj T.cl_Tree T.no_Tree_beaten does_var) does_var) does_var))) (does_ret (does_iP does_var)) does_next)
    (does_seq (does_if (does_jP (does_test (does_op2 (fun _ => v_eq) (does_get1 (does_fld T.inj T.cl_Tree T.no_Tree_beaten does_var) does_var) does_var))) (does_ret (does_iP does_var)) does_next)
    (does_seq (does_drop (does_upd u_append (fun _ _ _ _ _ _ _ _ => ty_append) lv_var (does_aCons (does_tup (does_aCons does_var (does_aCons does_var does_aNil))) does_aNil)))
    (does_ret (does_iP (does_c fun _ _ _ => ⟨rfl, rfl⟩)))))))))
theorem sc_Tree_slot_of : FnScope ["self", "pair"] ["self", "pair"] (defScope s_Tree_slot_of) := ⟨rfl, rfl, rfl, by decide +kernel, rfl, by decide +kernel, by decide +kernel⟩
theorem ok_Tree_slot_of (T : Txt K cls mg f_is_whole f_Tree_comes_out f_Tree_slot_of f_Tree_left f_Tree_beaten_by f__law_drawn f__law_size f_is_between f_Tree_champion f_slots_of f_Tree___init__ f_Tree_due f_Tree_told f__law_right f_law d_is_whole d_Tree_comes_out d_Tree_slot_of d_Tree_left d_Tree_beaten_by d__law_drawn d__law_size d_is_between d_Tree_champion d_slots_of d_Tree___init__ d_Tree_due d_Tree_told d__law_right d_law u_OPEN) : FnOk P w K mg base (L2.CX P w) 1 f_Tree_slot_of d_Tree_slot_of ["self", "pair"] (spD (NN K cls) 2 [] m_Tree_slot_of) := by
  refine def_ok (N := NN K cls) T.fn_Tree_slot_of sc_Tree_slot_of rfl rfl (by decide) fun cdv A outer s H E c => ⟨_, (pss_one (ps_ret (bmK (K := K) PySem.F.plainAttrs_list PySem.F.slot_list_index PySem.F.type_list_index (indexK (K := K) (by exact hu65 c.room)) (fldK (K := K) (pv 0)) (pa_cons (pe_ix (ixK (K := K) (by exact hu1 c.room)) (pv 1) pe_int (fun _ _ => rfl)) pa_nil)))), ?_⟩
  exact (does_ret (does_iP (does_mth (fun _ => v_index) ty_index (does_fld T.inj T.cl_Tree T.no_Tree_slots does_var) (does_aCons (does_op2 (fun _ => v_ix) does_var (does_c fun _ _ _ => ⟨rfl, rfl⟩)) does_aNil))))
theorem sc_Tree_left : FnScope ["self", "player"] ["self"] (defScope s_Tree_left) := ⟨rfl, rfl, rfl, by decide +kernel, rfl, by decide +kernel, by decide +kernel⟩
theorem ok_Tree_left (T : Txt K cls mg f_is_whole f_Tree_comes_out f_Tree_slot_of f_Tree_left f_Tree_beaten_by f__law_drawn f__law_size f_is_between f_Tree_champion f_slots_of f_Tree___init__ f_Tree_due f_Tree_told f__law_right f_law d_is_whole d_Tree_comes_out d_Tree_slot_of d_Tree_left d_Tree_beaten_by d__law_drawn d__law_size d_is_between d_Tree_champion d_slots_of d_Tree___init__ d_Tree_due d_Tree_told d__law_right d_law u_OPEN) : FnOk P w K mg base (L2.CX P w) 1 f_Tree_left d_Tree_left ["self"] (spD (NN K cls) 1 [] m_Tree_left) := by
  refine def_ok (N := NN K cls) T.fn_Tree_left sc_Tree_left rfl rfl (by decide) fun cdv A outer s H E c => ⟨_, (pss_one (ps_ret (pe_lc (own := [("player", 1)]) rfl sc_Tree_left.nd (pi_range1 (by rfl) T.n_range (pa_cons (fldK (K := K) (pv 0)) pa_nil)) (blkOk_by (N := ["self", "player"]) (sc := defScope s_Tree_left) (by decide +kernel)) (fun _ _ _ _ _ => (pg_name (i := 1) sc_Tree_left.nd rfl (by first | exact Or.inl rfl | exact Or.inr rfl))) (fun _ _ _ _ _ => (pts_one (pt_cmpR (notInK (K := K) (by exact hu65 c.room)) (pv 1) (fldK (K := K) (pv 0)) rfl))) (fun _ _ _ _ _ => (pv 1))))), ?_⟩
  exact (does_ret (does_iP (does_lc (does_wRng1 (does_fld T.inj T.cl_Tree T.no_Tree_many does_var)) (does_gName (fun z => nomatch z)) mono_name (only_name (by decide)) (does_test (does_op2 (fun _ => v_notIn) does_var (does_fld T.inj T.cl_Tree T.no_Tree_beaten does_var))) does_var)))
theorem sc_Tree_beaten_by : FnScope ["self", "player"] ["self", "player"] (defScope s_Tree_beaten_by) := ⟨rfl, rfl, rfl, by decide +kernel, rfl, by decide +kernel, by decide +kernel⟩
theorem ok_Tree_beaten_by (T : Txt K cls mg f_is_whole f_Tree_comes_out f_Tree_slot_of f_Tree_left f_Tree_beaten_by f__law_drawn f__law_size f_is_between f_Tree_champion f_slots_of f_Tree___init__ f_Tree_due f_Tree_told f__law_right f_law d_is_whole d_Tree_comes_out d_Tree_slot_of d_Tree_left d_Tree_beaten_by d__law_drawn d__law_size d_is_between d_Tree_champion d_slots_of d_Tree___init__ d_Tree_due d_Tree_told d__law_right d_law u_OPEN) : FnOk P w K mg base (L2.CX P w) 1 f_Tree_beaten_by d_Tree_beaten_by ["self", "player"] (spD (NN K cls) 2 [] m_Tree_beaten_by) := by
  refine def_ok (N := NN K cls) T.fn_Tree_beaten_by sc_Tree_beaten_by rfl rfl (by decide) fun cdv A outer s H E c => ⟨_, (pss_one (ps_ret (pe_dget1 (by exact hu1 c.room) (fldK (K := K) (pv 0)) (pv 1) ⟨rfl, rfl, rfl, rfl⟩))), ?_⟩
  exact (does_ret (does_iP (does_get1 (does_fld T.inj T.cl_Tree T.no_Tree_beaten does_var) does_var)))
theorem sc__law_drawn : FnScope ["_law_script", "_law_k", "_law_size_here", "_law_number"] ["_law_script", "_law_k", "_law_size_here"] (defScope s__law_drawn) := ⟨rfl, rfl, rfl, by decide +kernel, rfl, by decide +kernel, by decide +kernel⟩
theorem ok__law_drawn (T : Txt K cls mg f_is_whole f_Tree_comes_out f_Tree_slot_of f_Tree_left f_Tree_beaten_by f__law_drawn f__law_size f_is_between f_Tree_champion f_slots_of f_Tree___init__ f_Tree_due f_Tree_told f__law_right f_law d_is_whole d_Tree_comes_out d_Tree_slot_of d_Tree_left d_Tree_beaten_by d__law_drawn d__law_size d_is_between d_Tree_champion d_slots_of d_Tree___init__ d_Tree_due d_Tree_told d__law_right d_law u_OPEN) : FnOk P w K mg base (L2.CX P w) 1 f__law_drawn d__law_drawn ["_law_script", "_law_k", "_law_size_here"] (spD (NN K cls) 3 [] m__law_drawn) := by
  refine def_ok (N := NN K cls) T.fn__law_drawn sc__law_drawn rfl rfl (by decide) fun cdv A outer s H E c => ⟨_, (pss_cons (ps_set (i := 3) sc__law_drawn.nd rfl (by first | exact Or.inl rfl | exact Or.inr rfl) (pe_op op_add (pe_op op_mul (pe_op op_mul pe_int (pv 1)) (pv 1)) pe_int))
    (pss_cons (ps_if (pt_cmpR op_gt (pe_callB (lenK (K := K)) (by rfl) T.n_len (boot_len_) (pa_cons (pv 0) pa_nil)) pe_int (nomark _)) (pss_one (ps_set (i := 3) sc__law_drawn.nd rfl (by first | exact Or.inl rfl | exact Or.inr rfl) (pe_op op_add (pv 3) (pe_op op_mul (pe_op op_modN (pe_ix (ixK (K := K) (by exact hu1 c.room)) (pv 0) (pe_op op_modN (pv 1) (pe_callB (lenK (K := K)) (by rfl) T.n_len (boot_len_) (pa_cons (pv 0) pa_nil))) (fun _ _ => rfl)) (pe_op op_pow pe_int pe_int)) (pe_op op_add (pe_op op_mul pe_int (pv 1)) pe_int))))) pss_nil)
    (pss_one (ps_ret (pe_op op_modN (pe_op op_fdivN (pe_op op_modN (pv 3) pe_int) pe_int) (pv 2)))))), ?_⟩
  exact (does_seq (does_asg (does_iP (does_op2 (fun _ => v_add) (does_op2 (fun _ => v_mul) (does_op2 (fun _ => v_mul) (does_c fun _ _ _ => ⟨rfl, rfl⟩) does_var) does_var) (does_c fun _ _ _ => ⟨rfl, rfl⟩))) (does_gName (by decide)))
    (does_seq (does_if (does_jP (does_test (does_op2 (fun _ => v_gt) (does_cB (fun _ => v_len) (does_aCons does_var does_aNil)) (does_c fun _ _ _ => ⟨rfl, rfl⟩)))) (does_asg (does_iP (does_op2 (fun _ => v_add) does_var (does_op2 (fun _ => v_mul) (does_op2 (fun _ => v_mod) (does_op2 (fun _ => v_ix) does_var (does_op2 (fun _ => v_mod) does_var (does_cB (fun _ => v_len) (does_aCons does_var does_aNil)))) (does_op2 (fun _ => v_pow) (does_c fun _ _ _ => ⟨rfl, rfl⟩) (does_c fun _ _ _ => ⟨rfl, rfl⟩))) (does_op2 (fun _ => v_add) (does_op2 (fun _ => v_mul) (does_c fun _ _ _ => ⟨rfl, rfl⟩) does_var) (does_c fun _ _ _ => ⟨rfl, rfl⟩))))) (does_gName (by decide))) does_next)
    (does_ret (does_iP (does_op2 (fun _ => v_mod) (does_op2 (fun _ => v_div) (does_op2 (fun _ => v_mod) does_var (does_c fun _ _ _ => ⟨rfl, rfl⟩)) (does_c fun _ _ _ => ⟨rfl, rfl⟩)) does_var)))))
theorem sc__law_size : FnScope ["_law_player", "_law_size_here"] ["_law_player"] (defScope s__law_size) := ⟨rfl, rfl, rfl, by decide +kernel, rfl, by decide +kernel, by decide +kernel⟩
theorem ok__law_size (T : Txt K cls mg f_is_whole f_Tree_comes_out f_Tree_slot_of f_Tree_left f_Tree_beaten_by f__law_drawn f__law_size f_is_between f_Tree_champion f_slots_of f_Tree___init__ f_Tree_due f_Tree_told f__law_right f_law d_is_whole d_Tree_comes_out d_Tree_slot_of d_Tree_left d_Tree_beaten_by d__law_drawn d__law_size d_is_between d_Tree_champion d_slots_of d_Tree___init__ d_Tree_due d_Tree_told d__law_right d_law u_OPEN) : FnOk P w K mg base (L2.CX P w) 1 f__law_size d__law_size ["_law_player"] (spD (NN K cls) 1 [] m__law_size) := by
  refine def_ok (N := NN K cls) T.fn__law_size sc__law_size rfl rfl (by decide) fun cdv A outer s H E c => ⟨_, (pss_one (ps_ret (pe_ix (ixK (K := K) (by exact hu1 c.room)) (pe_lc (own := [("_law_size_here", 1)]) rfl sc__law_size.nd (piListK (K := K) (pe_lst (pa_cons pe_int (pa_cons pe_int (pa_cons pe_int (pa_cons pe_int (pa_cons pe_int pa_nil))))))) (blkOk_by (N := ["_law_player", "_law_size_here"]) (sc := defScope s__law_size) (by decide +kernel)) (fun _ _ _ _ _ => (pg_name (i := 1) sc__law_size.nd rfl (by first | exact Or.inl rfl | exact Or.inr rfl))) (fun _ _ _ _ _ => (pts_one (pt_cmpR op_gt (pv 1) (pv 0) (nomark _)))) (fun _ _ _ _ _ => (pv 1))) pe_int (fun _ _ => rfl)))), ?_⟩
  exact (does_ret (does_iP (does_op2 (fun _ => v_ix) (does_lc (does_wList (does_fz (does_lst (does_aCons (does_c fun _ _ _ => ⟨rfl, rfl⟩) (does_aCons (does_c fun _ _ _ => ⟨rfl, rfl⟩) (does_aCons (does_c fun _ _ _ => ⟨rfl, rfl⟩) (does_aCons (does_c fun _ _ _ => ⟨rfl, rfl⟩) (does_aCons (does_c fun _ _ _ => ⟨rfl, rfl⟩) does_aNil)))))))) (does_gName (fun z => nomatch z)) mono_name (only_name (by decide)) (does_test (does_op2 (fun _ => v_gt) does_var does_var)) does_var) (does_c fun _ _ _ => ⟨rfl, rfl⟩))))
theorem sc_is_between : FnScope ["thing", "low", "high"] ["thing", "low", "high"] (defScope s_is_between) := ⟨rfl, rfl, rfl, by decide +kernel, rfl, by decide +kernel, by decide +kernel⟩
theorem ok_is_between (T : Txt K cls mg f_is_whole f_Tree_comes_out f_Tree_slot_of f_Tree_left f_Tree_beaten_by f__law_drawn f__law_size f_is_between f_Tree_champion f_slots_of f_Tree___init__ f_Tree_due f_Tree_told f__law_right f_law d_is_whole d_Tree_comes_out d_Tree_slot_of d_Tree_left d_Tree_beaten_by d__law_drawn d__law_size d_is_between d_Tree_champion d_slots_of d_Tree___init__ d_Tree_due d_Tree_told d__law_right d_law u_OPEN) : FnOk P w K mg base (L2.CX P w) 2 f_is_between d_is_between ["thing", "low", "high"] (spD (NN K cls) 3 [] m_is_between) := by
  refine def_ok (N := NN K cls) T.fn_is_between sc_is_between rfl rfl (by decide) fun cdv A outer s H E c => ⟨_, (pss_one (ps_ret (pe_and (pe_callS (ok_is_whole T) (by exact c.room.mono (by decide)) (by rfl) T.g_is_whole T.k_is_whole T.b_is_whole (fun σ => passAt c.tk σ) (pa_cons (pv 0) pa_nil)) (pe_one (pe_chain op_le op_le (pv 1) (pv 0) (pv 2)))))), ?_⟩
  exact (does_ret (does_iP (does_andV (does_call (fun _ h => gCall_len h) (does_aCons does_var does_aNil)) (does_chain (fun _ => v_le) (fun _ => v_le) does_var does_var does_var))))
theorem sc_Tree_champion : FnScope ["self", "some"] ["self"] (defScope s_Tree_champion) := ⟨rfl, rfl, rfl, by decide +kernel, rfl, by decide +kernel, by decide +kernel⟩
theorem ok_Tree_champion (T : Txt K cls mg f_is_whole f_Tree_comes_out f_Tree_slot_of f_Tree_left f_Tree_beaten_by f__law_drawn f__law_size f_is_between f_Tree_champion f_slots_of f_Tree___init__ f_Tree_due f_Tree_told f__law_right f_law d_is_whole d_Tree_comes_out d_Tree_slot_of d_Tree_left d_Tree_beaten_by d__law_drawn d__law_size d_is_between d_Tree_champion d_slots_of d_Tree___init__ d_Tree_due d_Tree_told d__law_right d_law u_OPEN) : FnOk P w K mg base (L2.CX P w) 2 f_Tree_champion d_Tree_champion ["self"] (spD (NN K cls) 1 [] m_Tree_champion) := by
  refine def_ok (N := NN K cls) T.fn_Tree_champion sc_Tree_champion rfl rfl (by decide) fun cdv A outer s H E c => ⟨_, (pss_cons (ps_set (i := 1) sc_Tree_champion.nd rfl (by first | exact Or.inl rfl | exact Or.inr rfl) (pe_mS0 (pv 0) T.cl_Tree T.mt_Tree_left (ok_Tree_left T) (by exact c.room.mono (by decide)) T.b_Tree_left c.tk))
    (pss_cons (ps_if (pt_cmpR (eqK (K := K) (by exact hu64 c.room)) (pe_callB (lenK (K := K)) (by rfl) T.n_len (boot_len_) (pa_cons (pv 1) pa_nil)) pe_int (nomark _)) (pss_one (ps_ret (pe_ix (ixK (K := K) (by exact hu1 c.room)) (pv 1) pe_int (fun _ _ => rfl)))) pss_nil)
    (pss_one (ps_ret pe_non)))), ?_⟩
  exact (does_seq (does_asg (does_iP (does_fz (does_call (fun _ h => gCall_len h) (does_aConsI T.inj does_var does_aNil)))) (does_gName (by decide)))
    (does_seq (does_if (does_jP (does_test (does_op2 (fun _ => v_eq) (does_cB (fun _ => v_len) (does_aCons does_var does_aNil)) (does_c fun _ _ _ => ⟨rfl, rfl⟩)))) (does_ret (does_iP (does_op2 (fun _ => v_ix) does_var (does_c fun _ _ _ => ⟨rfl, rfl⟩)))) does_next)
    (does_ret (does_iP (does_c fun _ _ _ => ⟨rfl, rfl⟩)))))
theorem sc_slots_of : FnScope ["n", "slots", "last", "grown", "slot"] ["n"] (defScope s_slots_of) := ⟨rfl, rfl, rfl, by decide +kernel, rfl, by decide +kernel, by decide +kernel⟩
theorem ok_slots_of (T : Txt K cls mg f_is_whole f_Tree_comes_out f_Tree_slot_of f_Tree_left f_Tree_beaten_by f__law_drawn f__law_size f_is_between f_Tree_champion f_slots_of f_Tree___init__ f_Tree_due f_Tree_told f__law_right f_law d_is_whole d_Tree_comes_out d_Tree_slot_of d_Tree_left d_Tree_beaten_by d__law_drawn d__law_size d_is_between d_Tree_champion d_slots_of d_Tree___init__ d_Tree_due d_Tree_told d__law_right d_law u_OPEN) : FnOk P w K mg base (L2.CX P w) 3 f_slots_of d_slots_of ["n"] (spD (NN K cls) 1 [] m_slots_of) := by
  refine def_ok (N := NN K cls) T.fn_slots_of sc_slots_of rfl rfl (by decide) fun cdv A outer s H E c => ⟨_, (pss_cons (ps_if (pt_not (pt_val (pe_callS (ok_is_between T) (by exact c.room.mono (by decide)) (by rfl) T.g_is_between T.k_is_between T.b_is_between (fun σ => passAt c.tk σ) (pa_cons (pv 0) (pa_cons pe_int (pa_cons pe_int pa_nil)))))) (pss_one (ps_raise rfl c.tk (pmk_own PySem.F.excBase_ValueError T.x_NoSize T.g_NoSize T.k_NoSize (raises_own T.eb_NoSize T.et_NoSize) (by exact rfl)))) pss_nil)
    (pss_cons (ps_set (i := 1) sc_slots_of.nd rfl (by first | exact Or.inl rfl | exact Or.inr rfl) (pe_lst (pa_cons pe_int pa_nil)))
    (pss_cons (ps_while c.po (pt_cmpR op_lt (pe_callB (lenK (K := K)) (by rfl) T.n_len (boot_len_) (pa_cons (pv 1) pa_nil)) (pv 0) (nomark _)) (pss_cons (ps_set (i := 2) sc_slots_of.nd rfl (by first | exact Or.inl rfl | exact Or.inr rfl) (pe_op op_sub (pe_op op_mul pe_int (pe_callB (lenK (K := K)) (by rfl) T.n_len (boot_len_) (pa_cons (pv 1) pa_nil))) pe_int))
    (pss_cons (ps_set (i := 3) sc_slots_of.nd rfl (by first | exact Or.inl rfl | exact Or.inr rfl) (pe_lst pa_nil))
    (pss_cons (ps_for c.po rfl (piListK (K := K) (pv 1)) (pg_name (i := 4) sc_slots_of.nd rfl (by first | exact Or.inl rfl | exact Or.inr rfl)) (pss_cons (ps_expr (bmK (K := K) PySem.F.plainAttrs_list PySem.F.slot_list_append PySem.F.type_list_append mt_append (pv 3) (pa_cons (pv 4) pa_nil)))
    (pss_one (ps_expr (bmK (K := K) PySem.F.plainAttrs_list PySem.F.slot_list_append PySem.F.type_list_append mt_append (pv 3) (pa_cons (pe_op op_sub (pv 2) (pv 4)) pa_nil))))))
    (pss_one (ps_set (i := 1) sc_slots_of.nd rfl (by first | exact Or.inl rfl | exact Or.inr rfl) (pv 3)))))))
    (pss_one (ps_ret (pe_lc (own := [("slot", 4)]) rfl sc_slots_of.nd (piListK (K := K) (pv 1)) (blkOk_by (N := ["n", "slots", "last", "grown", "slot"]) (sc := defScope s_slots_of) (by decide +kernel)) (fun _ _ _ _ _ => (pg_name (i := 4) sc_slots_of.nd rfl (by first | exact Or.inl rfl | exact Or.inr rfl))) (fun _ _ _ _ _ => pts_nil) (fun _ _ _ _ _ => (pe_ifExp (pt_cmpR op_lt (pv 4) (pv 0) (nomark _)) (pv 4) pe_non)))))))), ?_⟩
  exact (does_seq (does_if (does_jP (does_not (does_tB (does_call (fun _ h => gCall_len h) (does_aCons does_var (does_aCons (does_c fun _ _ _ => ⟨rfl, rfl⟩) (does_aCons (does_c fun _ _ _ => ⟨rfl, rfl⟩) does_aNil))))))) does_raise does_next)
    (does_seq (does_asg (does_iP (does_fz (does_lst (does_aCons (does_c fun _ _ _ => ⟨rfl, rfl⟩) does_aNil)))) (does_gName (by decide)))
    (does_seq (does_while (fun _ => FUEL) [2, 3] (does_test (does_op2 (fun _ => v_lt) (does_cB (fun _ => v_len) (does_aCons does_var does_aNil)) does_var)) (does_seq (does_asg (does_iP (does_op2 (fun _ => v_sub) (does_op2 (fun _ => v_mul) (does_c fun _ _ _ => ⟨rfl, rfl⟩) (does_cB (fun _ => v_len) (does_aCons does_var does_aNil))) (does_c fun _ _ _ => ⟨rfl, rfl⟩))) (does_gName (by decide)))
    (does_seq (does_asg (does_iP (does_lst does_aNil)) (does_gName (by decide)))
    (does_seq (does_for [] (does_wList does_var) (does_gName (by decide)) (does_seq (does_drop (does_upd u_append (fun _ _ _ _ _ _ _ _ => ty_append) lv_var (does_aCons does_var does_aNil)))
    (does_drop (does_upd u_append (fun _ _ _ _ _ _ _ _ => ty_append) lv_var (does_aCons (does_op2 (fun _ => v_sub) does_var does_var) does_aNil)))))
    (does_asg (does_iFz does_iMv) (does_gName (by decide)))))))
    (does_ret (does_iP (does_lc (does_wList does_var) (does_gName (fun z => nomatch z)) mono_name (only_name (by decide)) does_yes (does_ifE (does_test (does_op2 (fun _ => v_lt) does_var does_var)) does_var (does_c fun _ _ _ => ⟨rfl, rfl⟩))))))))
theorem sc_Tree___init__ : FnScope ["self", "n"] ["self", "n"] (defScope s_Tree___init__) := ⟨rfl, rfl, rfl, by decide +kernel, rfl, by decide +kernel, by decide +kernel⟩
theorem ok_Tree___init__ (T : Txt K cls mg f_is_whole f_Tree_comes_out f_Tree_slot_of f_Tree_left f_Tree_beaten_by f__law_drawn f__law_size f_is_between f_Tree_champion f_slots_of f_Tree___init__ f_Tree_due f_Tree_told f__law_right f_law d_is_whole d_Tree_comes_out d_Tree_slot_of d_Tree_left d_Tree_beaten_by d__law_drawn d__law_size d_is_between d_Tree_champion d_slots_of d_Tree___init__ d_Tree_due d_Tree_told d__law_right d_law u_OPEN) : FnOk P w K mg base (L2.CX P w) 4 f_Tree___init__ d_Tree___init__ ["self", "n"] (spD (NN K cls) 2 [0] m_Tree___init__) := by
  refine def_ok (N := NN K cls) T.fn_Tree___init__ sc_Tree___init__ rfl rfl (by decide) fun cdv A outer s H E c => ⟨_, (pss_cons (setFldK (K := K) (pv 0) (pe_callS (ok_slots_of T) (by exact c.room.mono (by decide)) (by rfl) T.g_slots_of T.k_slots_of T.b_slots_of (fun σ => passAt c.tk σ) (pa_cons (pv 1) pa_nil)))
    (pss_cons (setFldK (K := K) (pv 0) (pv 1))
    (pss_one (setFldK (K := K) (pv 0) pe_dnewK)))), ?_⟩
  exact (does_seq (does_setF T.cl_Tree T.no_Tree_slots T.inj (does_iP (does_fz (does_call (fun _ h => gCall_len h) (does_aCons does_var does_aNil)))) lv_var)
    (does_seq (does_setF T.cl_Tree T.no_Tree_many T.inj (does_iP does_var) lv_var)
    (does_setF T.cl_Tree T.no_Tree_beaten T.inj (does_iP does_dnewK) lv_var)))
theorem sc_Tree_due : FnScope ["self", "found", "row", "k"] ["self"] (defScope s_Tree_due) := ⟨rfl, rfl, rfl, by decide +kernel, rfl, by decide +kernel, by decide +kernel⟩
theorem ok_Tree_due (T : Txt K cls mg f_is_whole f_Tree_comes_out f_Tree_slot_of f_Tree_left f_Tree_beaten_by f__law_drawn f__law_size f_is_between f_Tree_champion f_slots_of f_Tree___init__ f_Tree_due f_Tree_told f__law_right f_law d_is_whole d_Tree_comes_out d_Tree_slot_of d_Tree_left d_Tree_beaten_by d__law_drawn d__law_size d_is_between d_Tree_champion d_slots_of d_Tree___init__ d_Tree_due d_Tree_told d__law_right d_law u_OPEN) : FnOk P w K mg base (L2.CX P w) 4 f_Tree_due d_Tree_due ["self"] (spD (NN K cls) 1 [] m_Tree_due) := by
  refine def_ok (N := NN K cls) T.fn_Tree_due sc_Tree_due rfl rfl (by decide) fun cdv A outer s H E c => ⟨_, (pss_cons (ps_set (i := 1) sc_Tree_due.nd rfl (by first | exact Or.inl rfl | exact Or.inr rfl) (pe_lst pa_nil))
    (pss_cons (ps_set (i := 2) sc_Tree_due.nd rfl (by first | exact Or.inl rfl | exact Or.inr rfl) (pe_callTy (listK (K := K)) (by rfl) T.n_list (boot_list_) (pa_cons (fldK (K := K) (pv 0)) pa_nil)))
    (pss_cons (ps_while c.po (pt_cmpR op_gt (pe_callB (lenK (K := K)) (by rfl) T.n_len (boot_len_) (pa_cons (pv 2) pa_nil)) pe_int (nomark _)) (pss_one (by first | exact ps_set (i := 2) sc_Tree_due.nd rfl (by first | exact Or.inl rfl | exact Or.inr rfl) (pe_lc (own := [("k", 3)]) rfl sc_Tree_due.nd (pi_range3 (by rfl) T.n_range (pa_cons pe_int (pa_cons (pe_callB (lenK (K := K)) (by rfl) T.n_len (boot_len_) (pa_cons (pv 2) pa_nil)) (pa_cons pe_int pa_nil)))) (blkOk_by (N := ["self", "found", "row", "k"]) (sc := defScope s_Tree_due) (by decide +kernel)) (fun _ _ _ _ _ => (pg_name (i := 3) sc_Tree_due.nd rfl (by first | exact Or.inl rfl | exact Or.inr rfl))) (fun _ _ _ _ _ => pts_nil) (fun _ _ _ _ _ => (pe_mS (pv 0) T.cl_Tree T.mt_Tree_comes_out (ok_Tree_comes_out T) (by exact c.room.mono (by decide)) T.b_Tree_comes_out takes0 (pa_cons (pe_ix (ixK (K := K) (by exact hu1 c.room)) (pv 2) (pv 3) (fun _ _ => rfl)) (pa_cons (pe_ix (ixK (K := K) (by exact hu1 c.room)) (pv 2) (pe_op op_add (pv 3) pe_int) (fun _ _ => rfl)) (pa_cons (pv 1) pa_nil)))))) | exact (ps_setLc (i := 2) (own := [("k", 3)]) rfl sc_Tree_due.nd rfl rfl rfl (pi_range3 (by rfl) T.n_range (pa_cons pe_int (pa_cons (pe_callB (lenK (K := K)) (by rfl) T.n_len (boot_len_) (pa_cons (pv 2) pa_nil)) (pa_cons pe_int pa_nil)))) (blkOk_by (N := ["self", "found", "row", "k"]) (sc := defScope s_Tree_due) (by decide +kernel)) (fun _ _ _ _ _ => (pg_name (i := 3) sc_Tree_due.nd rfl (by first | exact Or.inl rfl | exact Or.inr rfl))) (fun _ _ _ _ _ => pts_nil) (fun _ _ _ _ _ => (pe_mS (pv 0) T.cl_Tree T.mt_Tree_comes_out (ok_Tree_comes_out T) (by exact c.room.mono (by decide)) T.b_Tree_comes_out takes0 (pa_cons (pe_ix (ixK (K := K) (by exact hu1 c.room)) (pv 2) (pv 3) (fun _ _ => rfl)) (pa_cons (pe_ix (ixK (K := K) (by exact hu1 c.room)) (pv 2) (pe_op op_add (pv 3) pe_int) (fun _ _ => rfl)) (pa_cons (pv 1) pa_nil)))))))))
    (pss_one (ps_ret (pe_callBK (sortMK (K := K) (ok_Tree_slot_of T) (by exact c.room.mono (by decide)) T.b_Tree_slot_of) (by rfl) T.n_sorted (boot_sorted_) (pa_cons (pv 1) pa_nil) (pk_cons (pe_bnd (pv 0) T.cl_Tree T.bm_Tree_slot_of) pk_nil))))))), ?_⟩
  exact (does_seq (does_asg (does_iP (does_lst does_aNil)) (does_gName (by decide)))
    (does_seq (does_asg (does_iP (does_fz (does_cB (fun _ => v_list1) (does_aCons (does_fld T.inj T.cl_Tree T.no_Tree_slots does_var) does_aNil)))) (does_gName (by decide)))
    (does_seq (does_while (fun _ => FUEL) [] (does_test (does_op2 (fun _ => v_gt) (does_cB (fun _ => v_len) (does_aCons does_var does_aNil)) (does_c fun _ _ _ => ⟨rfl, rfl⟩))) (does_asg (does_iFz (does_iLc (does_wRngBy2 (does_c fun _ _ _ => ⟨rfl, rfl⟩) (does_cB (fun _ => v_len) (does_aCons does_var does_aNil))) (does_gName (fun z => nomatch z)) mono_name (only_name (by decide)) (does_iMethV T.inj (fun _ h => gCall_len h) does_var (does_vVal (does_iP (does_op2 (fun _ => v_ix) does_var does_var)) (does_vVal (does_iP (does_op2 (fun _ => v_ix) does_var (does_op2 (fun _ => v_add) does_var (does_c fun _ _ _ => ⟨rfl, rfl⟩)))) (does_vOwn does_vNil)))))) (does_gName (by decide))))
    (does_ret (does_iP (does_sortM T.inj (fun _ h => gCall_len h) does_var does_var))))))
theorem sc_Tree_told : FnScope ["self", "winner", "loser", "some"] ["self", "winner", "loser"] (defScope s_Tree_told) := ⟨rfl, rfl, rfl, by decide +kernel, rfl, by decide +kernel, by decide +kernel⟩
theorem ok_Tree_told (T : Txt K cls mg f_is_whole f_Tree_comes_out f_Tree_slot_of f_Tree_left f_Tree_beaten_by f__law_drawn f__law_size f_is_between f_Tree_champion f_slots_of f_Tree___init__ f_Tree_due f_Tree_told f__law_right f_law d_is_whole d_Tree_comes_out d_Tree_slot_of d_Tree_left d_Tree_beaten_by d__law_drawn d__law_size d_is_between d_Tree_champion d_slots_of d_Tree___init__ d_Tree_due d_Tree_told d__law_right d_law u_OPEN) : FnOk P w K mg base (L2.CX P w) 5 f_Tree_told d_Tree_told ["self", "winner", "loser"] (spD (NN K cls) 3 [0] m_Tree_told) := by
  refine def_ok (N := NN K cls) T.fn_Tree_told sc_Tree_told rfl rfl (by decide) fun cdv A outer s H E c => ⟨_, (pss_cons (ps_if ((pw_or (pt_not (pt_val (pe_callS (ok_is_between T) (by exact c.room.mono (by decide)) (by rfl) T.g_is_between T.k_is_between T.b_is_between (fun σ => passAt c.tk σ) (pa_cons (pv 1) (pa_cons pe_int (pa_cons (pe_op op_sub (fldK (K := K) (pv 0)) pe_int) pa_nil)))))) (pw_or1 (pt_not (pt_val (pe_callS (ok_is_between T) (by exact c.room.mono (by decide)) (by rfl) T.g_is_between T.k_is_between T.b_is_between (fun σ => passAt c.tk σ) (pa_cons (pv 2) (pa_cons pe_int (pa_cons (pe_op op_sub (fldK (K := K) (pv 0)) pe_int) pa_nil))))))))).pt (pss_one (ps_raise rfl c.tk (pmk_own PySem.F.excBase_ValueError T.x_NotDue T.g_NotDue T.k_NotDue (raises_own T.eb_NotDue T.et_NotDue) (by exact rfl)))) pss_nil)
    (pss_cons (ps_set (i := 3) sc_Tree_told.nd rfl (by first | exact Or.inl rfl | exact Or.inr rfl) (pe_mS0 (pv 0) T.cl_Tree T.mt_Tree_due (ok_Tree_due T) (by exact c.room.mono (by decide)) T.b_Tree_due c.tk))
    (pss_cons (ps_if ((pw_and (pt_cmpR (notInK (K := K) (by exact hu65 c.room)) (pe_tup (pa_cons (pv 1) (pa_cons (pv 2) pa_nil))) (pv 3) rfl) (pw_and1 (pt_cmpR (notInK (K := K) (by exact hu65 c.room)) (pe_tup (pa_cons (pv 2) (pa_cons (pv 1) pa_nil))) (pv 3) rfl)))).pt (pss_one (ps_raise rfl c.tk (pmk_own PySem.F.excBase_ValueError T.x_NotDue T.g_NotDue T.k_NotDue (raises_own T.eb_NotDue T.et_NotDue) (by exact rfl)))) pss_nil)
    (pss_one (ps_asg (pv 1) (pg_sub (fldK (K := K) (pv 0)) (pv 2) (set_any (by exact hu1 c.room)))))))), ?_⟩
  exact (does_seq (does_if (does_jP (does_or (does_not (does_tB (does_call (fun _ h => gCall_len h) (does_aCons does_var (does_aCons (does_c fun _ _ _ => ⟨rfl, rfl⟩) (does_aCons (does_op2 (fun _ => v_sub) (does_fld T.inj T.cl_Tree T.no_Tree_many does_var) (does_c fun _ _ _ => ⟨rfl, rfl⟩)) does_aNil)))))) (does_not (does_tB (does_call (fun _ h => gCall_len h) (does_aCons does_var (does_aCons (does_c fun _ _ _ => ⟨rfl, rfl⟩) (does_aCons (does_op2 (fun _ => v_sub) (does_fld T.inj T.cl_Tree T.no_Tree_many does_var) (does_c fun _ _ _ => ⟨rfl, rfl⟩)) does_aNil)))))))) does_raise does_next)
    (does_seq (does_asg (does_iP (does_fz (does_call (fun _ h => gCall_len h) (does_aConsI T.inj does_var does_aNil)))) (does_gName (by decide)))
    (does_seq (does_if (does_jP (does_and (does_test (does_op2 (fun _ => v_notIn) (does_tup (does_aCons does_var (does_aCons does_var does_aNil))) does_var)) (does_test (does_op2 (fun _ => v_notIn) (does_tup (does_aCons does_var (does_aCons does_var does_aNil))) does_var)))) does_raise does_next)
    (does_setIx v_setA setAny_key (does_iP does_var) (lv_fld T.inj T.cl_Tree T.no_Tree_beaten lv_var) does_var))))
theorem sc__law_right : FnScope ["_law_script", "_law_turn", "_law_n", "_law_tree", "_law_k", "_law_due", "_law_one", "_law_other", "_law_player"] ["_law_script", "_law_turn", "_law_n"] (defScope s__law_right) := ⟨rfl, rfl, rfl, by decide +kernel, rfl, by decide +kernel, by decide +kernel⟩
theorem ok__law_right (T : Txt K cls mg f_is_whole f_Tree_comes_out f_Tree_slot_of f_Tree_left f_Tree_beaten_by f__law_drawn f__law_size f_is_between f_Tree_champion f_slots_of f_Tree___init__ f_Tree_due f_Tree_told f__law_right f_law d_is_whole d_Tree_comes_out d_Tree_slot_of d_Tree_left d_Tree_beaten_by d__law_drawn d__law_size d_is_between d_Tree_champion d_slots_of d_Tree___init__ d_Tree_due d_Tree_told d__law_right d_law u_OPEN) : FnOk P w K mg base (L2.CX P w) 6 f__law_right d__law_right ["_law_script", "_law_turn", "_law_n"] (spD (NN K cls) 3 [] m__law_right) := by
  refine def_ok (N := NN K cls) T.fn__law_right sc__law_right rfl rfl (by decide) fun cdv A outer s H E c => ⟨_, (pss_cons (ps_set (i := 3) sc__law_right.nd rfl (by first | exact Or.inl rfl | exact Or.inr rfl) (pe_mkS T.mk_Tree (ok_Tree___init__ T) (by exact c.room.mono (by decide)) (by rfl) T.g_Tree T.b_Tree___init__ c.tk (pa_cons (pv 2) pa_nil)))
    (pss_cons (ps_for c.po rfl (pi_range1 (by rfl) T.n_range (pa_cons (pe_op op_sub (pv 2) pe_int) pa_nil)) (pg_name (i := 4) sc__law_right.nd rfl (by first | exact Or.inl rfl | exact Or.inr rfl)) (pss_cons (ps_set (i := 5) sc__law_right.nd rfl (by first | exact Or.inl rfl | exact Or.inr rfl) (pe_mS0 (pv 3) T.cl_Tree T.mt_Tree_due (ok_Tree_due T) (by exact c.room.mono (by decide)) T.b_Tree_due c.tk))
    (pss_cons (ps_if ((pw_or (pt_not (pt_val (pe_callB (isiK (K := K)) (by rfl) T.n_isinstance (boot_isinstance_) (pa_cons (pv 5) (pa_cons (pe_bltn (v := .ty "list") (by rfl) T.n_list (boot_list_) rfl) pa_nil))))) (pw_or1 (pt_cmpR (eqK (K := K) (by exact hu64 c.room)) (pv 5) (pe_lst pa_nil) (nomark _))))).pt (pss_one (ps_ret pe_bl)) pss_nil)
    (pss_cons (ps_for c.po rfl (piListK (K := K) (pv 5)) (pgTupK (K := K) rfl (pgs_cons (pg_name (i := 6) sc__law_right.nd rfl (by first | exact Or.inl rfl | exact Or.inr rfl)) (pgs_cons (pg_name (i := 7) sc__law_right.nd rfl (by first | exact Or.inl rfl | exact Or.inr rfl)) pgs_nil))) (pss_one (ps_if ((pw_or (pt_cmpR (notInK (K := K) (by exact hu65 c.room)) (pe_op op_add (pe_op op_add (pv 6) (pv 7)) pe_int) (pe_tup (pa_cons pe_int (pa_cons pe_int (pa_cons pe_int (pa_cons pe_int pa_nil))))) rfl) (pw_or1 (pt_cmpR op_ge (pe_op op_mul pe_int (pe_callB (call_min2 rfl) (by rfl) T.n_min (boot_min_) (pa_cons (pv 6) (pa_cons (pv 7) pa_nil)))) (pe_op op_add (pv 6) (pv 7)) (nomark _))))).pt (pss_one (ps_ret pe_bl)) pss_nil)))
    (pss_cons (ps_asg (pe_ix (ixK (K := K) (by exact hu1 c.room)) (pv 5) (pe_callS (ok__law_drawn T) (by exact c.room.mono (by decide)) (by rfl) T.g__law_drawn T.k__law_drawn T.b__law_drawn (fun σ => passAt c.tk σ) (pa_cons (pv 0) (pa_cons (pe_op op_add (pe_op op_mul pe_int (pv 1)) (pv 4)) (pa_cons (pe_callB (lenK (K := K)) (by rfl) T.n_len (boot_len_) (pa_cons (pv 5) pa_nil)) pa_nil)))) (fun _ _ => rfl)) (pgTupK (K := K) rfl (pgs_cons (pg_name (i := 6) sc__law_right.nd rfl (by first | exact Or.inl rfl | exact Or.inr rfl)) (pgs_cons (pg_name (i := 7) sc__law_right.nd rfl (by first | exact Or.inl rfl | exact Or.inr rfl)) pgs_nil))))
    (pss_one (ps_expr (pe_mS (pv 3) T.cl_Tree T.mt_Tree_told (ok_Tree_told T) (by exact c.room.mono (by decide)) T.b_Tree_told c.tk (pa_cons (pe_callB (call_min2 rfl) (by rfl) T.n_min (boot_min_) (pa_cons (pv 6) (pa_cons (pv 7) pa_nil))) (pa_cons (pe_callB (call_max2 rfl) (by rfl) T.n_max (boot_max_) (pa_cons (pv 6) (pa_cons (pv 7) pa_nil))) pa_nil))))))))))
    (pss_cons (ps_if ((pw_or (pt_cmpR (neK (K := K) (by exact hu64 c.room)) (pe_mS0 (pv 3) T.cl_Tree T.mt_Tree_due (ok_Tree_due T) (by exact c.room.mono (by decide)) T.b_Tree_due c.tk) (pe_lst pa_nil) (nomark _)) (pw_or (pt_cmpR (neK (K := K) (by exact hu64 c.room)) (pe_mS0 (pv 3) T.cl_Tree T.mt_Tree_champion (ok_Tree_champion T) (by exact c.room.mono (by decide)) T.b_Tree_champion c.tk) pe_int (nomark _)) (pw_or (pt_cmpR (neK (K := K) (by exact hu64 c.room)) (pe_mS0 (pv 3) T.cl_Tree T.mt_Tree_left (ok_Tree_left T) (by exact c.room.mono (by decide)) T.b_Tree_left c.tk) (pe_lst (pa_cons pe_int pa_nil)) (nomark _)) (pw_or1 (pt_cmpR op_notN (pe_mS (pv 3) T.cl_Tree T.mt_Tree_beaten_by (ok_Tree_beaten_by T) (by exact c.room.mono (by decide)) T.b_Tree_beaten_by c.tk (pa_cons pe_int pa_nil)) pe_non (nomark _))))))).pt (pss_one (ps_ret pe_bl)) pss_nil)
    (pss_cons (ps_for c.po rfl (pi_range2 (by rfl) T.n_range (pa_cons pe_int (pa_cons (pv 2) pa_nil))) (pg_name (i := 8) sc__law_right.nd rfl (by first | exact Or.inl rfl | exact Or.inr rfl)) (pss_one (ps_if (pt_cmpR (neK (K := K) (by exact hu64 c.room)) (pe_mS (pv 3) T.cl_Tree T.mt_Tree_beaten_by (ok_Tree_beaten_by T) (by exact c.room.mono (by decide)) T.b_Tree_beaten_by c.tk (pa_cons (pv 8) pa_nil)) (pe_op op_sub (pe_op op_sub (pe_callS (ok__law_size T) (by exact c.room.mono (by decide)) (by rfl) T.g__law_size T.k__law_size T.b__law_size (fun σ => passAt c.tk σ) (pa_cons (pv 8) pa_nil)) pe_int) (pv 8)) (nomark _)) (pss_one (ps_ret pe_bl)) pss_nil)))
    (pss_one (ps_ret pe_bl)))))), ?_⟩
  exact (does_seq (does_asg (does_iP (does_make (fun _ h => gCall_len h) (does_aCons does_var does_aNil))) (does_gName (by decide)))
    (does_seq (does_for [4, 5, 6, 7] (does_wRng1 (does_op2 (fun _ => v_sub) does_var (does_c fun _ _ _ => ⟨rfl, rfl⟩))) (does_gName (by decide)) (does_seq (does_asg (does_iP (does_fz (does_call (fun _ h => gCall_len h) (does_aConsI T.inj does_var does_aNil)))) (does_gName (by decide)))
    (does_seq (does_if (does_jP (does_or (does_not (does_tB (does_isi (by decide) does_var))) (does_test (does_op2 (fun _ => v_eq) does_var (does_lst does_aNil))))) (does_ret (does_iP (does_c fun _ _ _ => ⟨rfl, rfl⟩))) does_next)
    (does_seq (does_for [6, 7] (does_wList does_var) (does_gTup (does_gCons (does_gName (by decide)) (does_gCons (does_gName (by decide)) does_gNil)) rfl) (does_if (does_jP (does_or (does_test (does_op2 (fun _ => v_notIn) (does_op2 (fun _ => v_add) (does_op2 (fun _ => v_add) does_var does_var) (does_c fun _ _ _ => ⟨rfl, rfl⟩)) (does_tup (does_aCons (does_c fun _ _ _ => ⟨rfl, rfl⟩) (does_aCons (does_c fun _ _ _ => ⟨rfl, rfl⟩) (does_aCons (does_c fun _ _ _ => ⟨rfl, rfl⟩) (does_aCons (does_c fun _ _ _ => ⟨rfl, rfl⟩) does_aNil))))))) (does_test (does_op2 (fun _ => v_ge) (does_op2 (fun _ => v_mul) (does_c fun _ _ _ => ⟨rfl, rfl⟩) (does_cB (fun _ => v_min2) (does_aCons does_var (does_aCons does_var does_aNil)))) (does_op2 (fun _ => v_add) does_var does_var))))) (does_ret (does_iP (does_c fun _ _ _ => ⟨rfl, rfl⟩))) does_next))
    (does_seq (does_asg (does_iP (does_op2 (fun _ => v_ix) does_var (does_call (fun _ h => gCall_len h) (does_aCons does_var (does_aCons (does_op2 (fun _ => v_add) (does_op2 (fun _ => v_mul) (does_c fun _ _ _ => ⟨rfl, rfl⟩) does_var) does_var) (does_aCons (does_cB (fun _ => v_len) (does_aCons does_var does_aNil)) does_aNil)))))) (does_gTup (does_gCons (does_gName (by decide)) (does_gCons (does_gName (by decide)) does_gNil)) rfl))
    (does_drop (does_iMethO T.inj (fun _ h => gCall_len h) (does_vVal (does_iP (does_cB (fun _ => v_min2) (does_aCons does_var (does_aCons does_var does_aNil)))) (does_vVal (does_iP (does_cB (fun _ => v_max2) (does_aCons does_var (does_aCons does_var does_aNil)))) does_vNil)))))))))
    (does_seq (does_if (does_jP (does_or (does_test (does_op2 (fun _ => v_ne) (does_call (fun _ h => gCall_len h) (does_aConsI T.inj does_var does_aNil)) (does_lst does_aNil))) (does_or (does_test (does_op2 (fun _ => v_ne) (does_call (fun _ h => gCall_len h) (does_aConsI T.inj does_var does_aNil)) (does_c fun _ _ _ => ⟨rfl, rfl⟩))) (does_or (does_test (does_op2 (fun _ => v_ne) (does_call (fun _ h => gCall_len h) (does_aConsI T.inj does_var does_aNil)) (does_lst (does_aCons (does_c fun _ _ _ => ⟨rfl, rfl⟩) does_aNil)))) (does_test (does_op2 (fun _ => v_isNot2) (does_call (fun _ h => gCall_len h) (does_aConsI T.inj does_var (does_aCons (does_c fun _ _ _ => ⟨rfl, rfl⟩) does_aNil))) (does_c fun _ _ _ => ⟨rfl, rfl⟩))))))) (does_ret (does_iP (does_c fun _ _ _ => ⟨rfl, rfl⟩))) does_next)
    (does_seq (does_for [8] (does_wRng2 (does_c fun _ _ _ => ⟨rfl, rfl⟩) does_var) (does_gName (by decide)) (does_if (does_jP (does_test (does_op2 (fun _ => v_ne) (does_call (fun _ h => gCall_len h) (does_aConsI T.inj does_var (does_aCons does_var does_aNil))) (does_op2 (fun _ => v_sub) (does_op2 (fun _ => v_sub) (does_call (fun _ h => gCall_len h) (does_aCons does_var does_aNil)) (does_c fun _ _ _ => ⟨rfl, rfl⟩)) does_var)))) (does_ret (does_iP (does_c fun _ _ _ => ⟨rfl, rfl⟩))) does_next))
    (does_ret (does_iP (does_c fun _ _ _ => ⟨rfl, rfl⟩)))))))
theorem sc_law : FnScope ["_law_script", "_law_cells", "_law_turn"] ["_law_script"] (defScope s_law) := ⟨rfl, rfl, rfl, by decide +kernel, rfl, by decide +kernel, by decide +kernel⟩
theorem ok_law (T : Txt K cls mg f_is_whole f_Tree_comes_out f_Tree_slot_of f_Tree_left f_Tree_beaten_by f__law_drawn f__law_size f_is_between f_Tree_champion f_slots_of f_Tree___init__ f_Tree_due f_Tree_told f__law_right f_law d_is_whole d_Tree_comes_out d_Tree_slot_of d_Tree_left d_Tree_beaten_by d__law_drawn d__law_size d_is_between d_Tree_champion d_slots_of d_Tree___init__ d_Tree_due d_Tree_told d__law_right d_law u_OPEN) : FnOk P w K mg base (L2.CX P w) 7 f_law d_law ["_law_script"] (spD (NN K cls) 1 [] m_law) := by
  refine def_ok (N := NN K cls) T.fn_law sc_law rfl rfl (by decide) fun cdv A outer s H E c => ⟨_, (pss_cons (ps_set (i := 1) sc_law.nd rfl (by first | exact Or.inl rfl | exact Or.inr rfl) (pe_slice (sliceK (K := K)) (pv 0) po_none (po_some pe_int)))
    (pss_cons (ps_if (pt_cmpR (eqK (K := K) (by exact hu64 c.room)) (pv 1) (pe_lst pa_nil) (nomark _)) (pss_one (ps_set (i := 1) sc_law.nd rfl (by first | exact Or.inl rfl | exact Or.inr rfl) (pe_lst (pa_cons pe_int pa_nil)))) pss_nil)
    (pss_cons (ps_for c.po rfl (pi_range1 (by rfl) T.n_range (pa_cons (pe_callB (lenK (K := K)) (by rfl) T.n_len (boot_len_) (pa_cons (pv 1) pa_nil)) pa_nil)) (pg_name (i := 2) sc_law.nd rfl (by first | exact Or.inl rfl | exact Or.inr rfl)) (pss_one (ps_if (pt_not (pt_val (pe_callS (ok__law_right T) (by exact c.room.mono (by decide)) (by rfl) T.g__law_right T.k__law_right T.b__law_right (fun σ => passAt c.tk σ) (pa_cons (pv 0) (pa_cons (pv 2) (pa_cons (pe_op op_add pe_int (pe_op op_modN (pe_ix (ixK (K := K) (by exact hu1 c.room)) (pv 1) (pv 2) (fun _ _ => rfl)) pe_int)) pa_nil)))))) (pss_one (ps_ret pe_bl)) pss_nil)))
    (pss_one (ps_ret pe_bl))))), ?_⟩
  exact (does_seq (does_asg (does_iP (does_fz (does_cut does_var does_poN (does_poS (does_c fun _ _ _ => ⟨rfl, rfl⟩))))) (does_gName (by decide)))
    (does_seq (does_if (does_jP (does_test (does_op2 (fun _ => v_eq) does_var (does_lst does_aNil)))) (does_asg (does_iP (does_fz (does_lst (does_aCons (does_c fun _ _ _ => ⟨rfl, rfl⟩) does_aNil)))) (does_gName (by decide))) does_next)
    (does_seq (does_for [2] (does_wRng1 (does_cB (fun _ => v_len) (does_aCons does_var does_aNil))) (does_gName (by decide)) (does_if (does_jP (does_not (does_tB (does_call (fun _ h => gCall_len h) (does_aCons does_var (does_aCons does_var (does_aCons (does_op2 (fun _ => v_add) (does_c fun _ _ _ => ⟨rfl, rfl⟩) (does_op2 (fun _ => v_mod) (does_op2 (fun _ => v_ix) does_var does_var) (does_c fun _ _ _ => ⟨rfl, rfl⟩))) does_aNil))))))) (does_ret (does_iP (does_c fun _ _ _ => ⟨rfl, rfl⟩))) does_next))
    (does_ret (does_iP (does_c fun _ _ _ => ⟨rfl, rfl⟩))))))
end
end Cd

set_option Elab.async false
set_option linter.all false
set_option maxRecDepth 100000
namespace Cd
open PySem PySem.Spec PyProof.Rows L2
theorem all_mk (hL : ∀ ns : List Int, ns.length ≤ 63 → m_law [.kon true (ns.map T.int)] = .ret (.bl true) []) {P : Program} {w : World} {K : PySem.W.Frag} {h : Heap} {mg : Str → Option Value} {fa f_is_whole f_Tree_comes_out f_Tree_slot_of f_Tree_left f_Tree_beaten_by f__law_drawn f__law_size f_is_between f_Tree_champion f_slots_of f_Tree___init__ f_Tree_due f_Tree_told f__law_right f_law c_Tree c_NoSize c_NotDue : Addr} (X : K.In h) (G : h.Ns mainGlobals mg) (hfa : mg "law" = some (.ref fa))
    {od_is_whole an_is_whole od_Tree_comes_out an_Tree_comes_out od_Tree_slot_of an_Tree_slot_of od_Tree_left an_Tree_left od_Tree_beaten_by an_Tree_beaten_by od__law_drawn an__law_drawn od__law_size an__law_size od_is_between an_is_between od_Tree_champion an_Tree_champion od_slots_of an_slots_of od_Tree___init__ an_Tree___init__ od_Tree_due an_Tree_due od_Tree_told an_Tree_told od__law_right an__law_right od_law an_law : Option Addr} {sl_is_whole sl_Tree_comes_out sl_Tree_slot_of sl_Tree_left sl_Tree_beaten_by sl__law_drawn sl__law_size sl_is_between sl_Tree_champion sl_slots_of sl_Tree___init__ sl_Tree_due sl_Tree_told sl__law_right sl_law : Array (Option Value)} {oc_is_whole kv_is_whole dc_is_whole pm_is_whole cd_is_whole ct_is_whole oc_Tree_comes_out kv_Tree_comes_out dc_Tree_comes_out pm_Tree_comes_out cd_Tree_comes_out ct_Tree_comes_out oc_Tree_slot_of kv_Tree_slot_of dc_Tree_slot_of pm_Tree_slot_of cd_Tree_slot_of ct_Tree_slot_of oc_Tree_left kv_Tree_left dc_Tree_left pm_Tree_left cd_Tree_left ct_Tree_left oc_Tree_beaten_by kv_Tree_beaten_by dc_Tree_beaten_by pm_Tree_beaten_by cd_Tree_beaten_by ct_Tree_beaten_by oc__law_drawn kv__law_drawn dc__law_drawn pm__law_drawn cd__law_drawn ct__law_drawn oc__law_size kv__law_size dc__law_size pm__law_size cd__law_size ct__law_size oc_is_between kv_is_between dc_is_between pm_is_between cd_is_between ct_is_between oc_Tree_champion kv_Tree_champion dc_Tree_champion pm_Tree_champion cd_Tree_champion ct_Tree_champion oc_slots_of kv_slots_of dc_slots_of pm_slots_of cd_slots_of ct_slots_of oc_Tree___init__ kv_Tree___init__ dc_Tree___init__ pm_Tree___init__ cd_Tree___init__ ct_Tree___init__ oc_Tree_due kv_Tree_due dc_Tree_due pm_Tree_due cd_Tree_due ct_Tree_due oc_Tree_told kv_Tree_told dc_Tree_told pm_Tree_told cd_Tree_told ct_Tree_told oc__law_right kv__law_right dc__law_right pm__law_right cd__law_right ct__law_right oc_law kv_law dc_law pm_law cd_law ct_law : Value} {t_OPEN : Nat}
    (a_Tree : PySem.W.nsIn K mainGlobals "Tree" = some (some (.ref c_Tree)))
    (a_NoSize : PySem.W.nsIn K mainGlobals "NoSize" = some (some (.ref c_NoSize)))
    (a_NotDue : PySem.W.nsIn K mainGlobals "NotDue" = some (some (.ref c_NotDue)))
    (a_is_whole : PySem.W.nsIn K mainGlobals "is_whole" = some (some (.ref f_is_whole)))
    (l_is_whole : K.lookup f_is_whole = some ⟨oc_is_whole, od_is_whole, .func (PySem.W.fnOf "is_whole" "is_whole" (defArgs s_is_whole) (defBody s_is_whole) (defScope s_is_whole) .none kv_is_whole dc_is_whole pm_is_whole an_is_whole cd_is_whole ct_is_whole), sl_is_whole⟩)
    (d_is_whole : PySem.W.codeIn K cd_is_whole "is_whole" = true)
    (k_is_whole : PySem.W.keepIn K (.ref f_is_whole) = true)
    (a_Tree_comes_out : PySem.W.findIn K (.ref c_Tree) "comes_out" = some (some (.ref f_Tree_comes_out)))
    (i_Tree_comes_out : PySem.W.isFn K (.ref f_Tree_comes_out) = true)
    (l_Tree_comes_out : K.lookup f_Tree_comes_out = some ⟨oc_Tree_comes_out, od_Tree_comes_out, .func (PySem.W.fnOf "comes_out" "Tree.comes_out" (defArgs s_Tree_comes_out) (defBody s_Tree_comes_out) (defScope s_Tree_comes_out) .none kv_Tree_comes_out dc_Tree_comes_out pm_Tree_comes_out an_Tree_comes_out cd_Tree_comes_out ct_Tree_comes_out), sl_Tree_comes_out⟩)
    (d_Tree_comes_out : PySem.W.codeIn K cd_Tree_comes_out "Tree.comes_out" = true)
    (k_Tree_comes_out : PySem.W.keepIn K (.ref f_Tree_comes_out) = true)
    (a_Tree_slot_of : PySem.W.findIn K (.ref c_Tree) "slot_of" = some (some (.ref f_Tree_slot_of)))
    (i_Tree_slot_of : PySem.W.isFn K (.ref f_Tree_slot_of) = true)
    (l_Tree_slot_of : K.lookup f_Tree_slot_of = some ⟨oc_Tree_slot_of, od_Tree_slot_of, .func (PySem.W.fnOf "slot_of" "Tree.slot_of" (defArgs s_Tree_slot_of) (defBody s_Tree_slot_of) (defScope s_Tree_slot_of) .none kv_Tree_slot_of dc_Tree_slot_of pm_Tree_slot_of an_Tree_slot_of cd_Tree_slot_of ct_Tree_slot_of), sl_Tree_slot_of⟩)
    (d_Tree_slot_of : PySem.W.codeIn K cd_Tree_slot_of "Tree.slot_of" = true)
    (k_Tree_slot_of : PySem.W.keepIn K (.ref f_Tree_slot_of) = true)
    (a_Tree_left : PySem.W.findIn K (.ref c_Tree) "left" = some (some (.ref f_Tree_left)))
    (i_Tree_left : PySem.W.isFn K (.ref f_Tree_left) = true)
    (l_Tree_left : K.lookup f_Tree_left = some ⟨oc_Tree_left, od_Tree_left, .func (PySem.W.fnOf "left" "Tree.left" (defArgs s_Tree_left) (defBody s_Tree_left) (defScope s_Tree_left) .none kv_Tree_left dc_Tree_left pm_Tree_left an_Tree_left cd_Tree_left ct_Tree_left), sl_Tree_left⟩)
    (d_Tree_left : PySem.W.codeIn K cd_Tree_left "Tree.left" = true)
    (k_Tree_left : PySem.W.keepIn K (.ref f_Tree_left) = true)
    (a_Tree_beaten_by : PySem.W.findIn K (.ref c_Tree) "beaten_by" = some (some (.ref f_Tree_beaten_by)))
    (i_Tree_beaten_by : PySem.W.isFn K (.ref f_Tree_beaten_by) = true)
    (l_Tree_beaten_by : K.lookup f_Tree_beaten_by = some ⟨oc_Tree_beaten_by, od_Tree_beaten_by, .func (PySem.W.fnOf "beaten_by" "Tree.beaten_by" (defArgs s_Tree_beaten_by) (defBody s_Tree_beaten_by) (defScope s_Tree_beaten_by) .none kv_Tree_beaten_by dc_Tree_beaten_by pm_Tree_beaten_by an_Tree_beaten_by cd_Tree_beaten_by ct_Tree_beaten_by), sl_Tree_beaten_by⟩)
    (d_Tree_beaten_by : PySem.W.codeIn K cd_Tree_beaten_by "Tree.beaten_by" = true)
    (k_Tree_beaten_by : PySem.W.keepIn K (.ref f_Tree_beaten_by) = true)
    (a__law_drawn : PySem.W.nsIn K mainGlobals "_law_drawn" = some (some (.ref f__law_drawn)))
    (l__law_drawn : K.lookup f__law_drawn = some ⟨oc__law_drawn, od__law_drawn, .func (PySem.W.fnOf "_law_drawn" "_law_drawn" (defArgs s__law_drawn) (defBody s__law_drawn) (defScope s__law_drawn) .none kv__law_drawn dc__law_drawn pm__law_drawn an__law_drawn cd__law_drawn ct__law_drawn), sl__law_drawn⟩)
    (d__law_drawn : PySem.W.codeIn K cd__law_drawn "_law_drawn" = true)
    (k__law_drawn : PySem.W.keepIn K (.ref f__law_drawn) = true)
    (a__law_size : PySem.W.nsIn K mainGlobals "_law_size" = some (some (.ref f__law_size)))
    (l__law_size : K.lookup f__law_size = some ⟨oc__law_size, od__law_size, .func (PySem.W.fnOf "_law_size" "_law_size" (defArgs s__law_size) (defBody s__law_size) (defScope s__law_size) .none kv__law_size dc__law_size pm__law_size an__law_size cd__law_size ct__law_size), sl__law_size⟩)
    (d__law_size : PySem.W.codeIn K cd__law_size "_law_size" = true)
    (k__law_size : PySem.W.keepIn K (.ref f__law_size) = true)
    (a_is_between : PySem.W.nsIn K mainGlobals "is_between" = some (some (.ref f_is_between)))
    (l_is_between : K.lookup f_is_between = some ⟨oc_is_between, od_is_between, .func (PySem.W.fnOf "is_between" "is_between" (defArgs s_is_between) (defBody s_is_between) (defScope s_is_between) .none kv_is_between dc_is_between pm_is_between an_is_between cd_is_between ct_is_between), sl_is_between⟩)
    (d_is_between : PySem.W.codeIn K cd_is_between "is_between" = true)
    (k_is_between : PySem.W.keepIn K (.ref f_is_between) = true)
    (a_Tree_champion : PySem.W.findIn K (.ref c_Tree) "champion" = some (some (.ref f_Tree_champion)))
    (i_Tree_champion : PySem.W.isFn K (.ref f_Tree_champion) = true)
    (l_Tree_champion : K.lookup f_Tree_champion = some ⟨oc_Tree_champion, od_Tree_champion, .func (PySem.W.fnOf "champion" "Tree.champion" (defArgs s_Tree_champion) (defBody s_Tree_champion) (defScope s_Tree_champion) .none kv_Tree_champion dc_Tree_champion pm_Tree_champion an_Tree_champion cd_Tree_champion ct_Tree_champion), sl_Tree_champion⟩)
    (d_Tree_champion : PySem.W.codeIn K cd_Tree_champion "Tree.champion" = true)
    (k_Tree_champion : PySem.W.keepIn K (.ref f_Tree_champion) = true)
    (a_slots_of : PySem.W.nsIn K mainGlobals "slots_of" = some (some (.ref f_slots_of)))
    (l_slots_of : K.lookup f_slots_of = some ⟨oc_slots_of, od_slots_of, .func (PySem.W.fnOf "slots_of" "slots_of" (defArgs s_slots_of) (defBody s_slots_of) (defScope s_slots_of) .none kv_slots_of dc_slots_of pm_slots_of an_slots_of cd_slots_of ct_slots_of), sl_slots_of⟩)
    (d_slots_of : PySem.W.codeIn K cd_slots_of "slots_of" = true)
    (k_slots_of : PySem.W.keepIn K (.ref f_slots_of) = true)
    (a_Tree___init__ : PySem.W.findIn K (.ref c_Tree) "__init__" = some (some (.ref f_Tree___init__)))
    (i_Tree___init__ : PySem.W.isFn K (.ref f_Tree___init__) = true)
    (l_Tree___init__ : K.lookup f_Tree___init__ = some ⟨oc_Tree___init__, od_Tree___init__, .func (PySem.W.fnOf "__init__" "Tree.__init__" (defArgs s_Tree___init__) (defBody s_Tree___init__) (defScope s_Tree___init__) .none kv_Tree___init__ dc_Tree___init__ pm_Tree___init__ an_Tree___init__ cd_Tree___init__ ct_Tree___init__), sl_Tree___init__⟩)
    (d_Tree___init__ : PySem.W.codeIn K cd_Tree___init__ "Tree.__init__" = true)
    (k_Tree___init__ : PySem.W.keepIn K (.ref f_Tree___init__) = true)
    (a_Tree_due : PySem.W.findIn K (.ref c_Tree) "due" = some (some (.ref f_Tree_due)))
    (i_Tree_due : PySem.W.isFn K (.ref f_Tree_due) = true)
    (l_Tree_due : K.lookup f_Tree_due = some ⟨oc_Tree_due, od_Tree_due, .func (PySem.W.fnOf "due" "Tree.due" (defArgs s_Tree_due) (defBody s_Tree_due) (defScope s_Tree_due) .none kv_Tree_due dc_Tree_due pm_Tree_due an_Tree_due cd_Tree_due ct_Tree_due), sl_Tree_due⟩)
    (d_Tree_due : PySem.W.codeIn K cd_Tree_due "Tree.due" = true)
    (k_Tree_due : PySem.W.keepIn K (.ref f_Tree_due) = true)
    (a_Tree_told : PySem.W.findIn K (.ref c_Tree) "told" = some (some (.ref f_Tree_told)))
    (i_Tree_told : PySem.W.isFn K (.ref f_Tree_told) = true)
    (l_Tree_told : K.lookup f_Tree_told = some ⟨oc_Tree_told, od_Tree_told, .func (PySem.W.fnOf "told" "Tree.told" (defArgs s_Tree_told) (defBody s_Tree_told) (defScope s_Tree_told) .none kv_Tree_told dc_Tree_told pm_Tree_told an_Tree_told cd_Tree_told ct_Tree_told), sl_Tree_told⟩)
    (d_Tree_told : PySem.W.codeIn K cd_Tree_told "Tree.told" = true)
    (k_Tree_told : PySem.W.keepIn K (.ref f_Tree_told) = true)
    (a__law_right : PySem.W.nsIn K mainGlobals "_law_right" = some (some (.ref f__law_right)))
    (l__law_right : K.lookup f__law_right = some ⟨oc__law_right, od__law_right, .func (PySem.W.fnOf "_law_right" "_law_right" (defArgs s__law_right) (defBody s__law_right) (defScope s__law_right) .none kv__law_right dc__law_right pm__law_right an__law_right cd__law_right ct__law_right), sl__law_right⟩)
    (d__law_right : PySem.W.codeIn K cd__law_right "_law_right" = true)
    (k__law_right : PySem.W.keepIn K (.ref f__law_right) = true)
    (a_law : PySem.W.nsIn K mainGlobals "law" = some (some (.ref f_law)))
    (l_law : K.lookup f_law = some ⟨oc_law, od_law, .func (PySem.W.fnOf "law" "law" (defArgs s_law) (defBody s_law) (defScope s_law) .none kv_law dc_law pm_law an_law cd_law ct_law), sl_law⟩)
    (d_law : PySem.W.codeIn K cd_law "law" = true)
    (k_law : PySem.W.keepIn K (.ref f_law) = true)
    (pg_Tree : PySem.W.plainGet K c_Tree Str.empty = true)
    (hd_Tree : PySem.W.hasDictIn K c_Tree = true)
    (po_Tree : PySem.W.plainOver K c_Tree = true)
    (sa_Tree : PySem.W.findIn K (.ref c_Tree) "__setattr__" = some (some (.builtin "object.__setattr__")))
    (mk_Tree : PySem.W.makesIn K c_Tree = true)
    (kc_Tree : PySem.W.keepIn K (.ref c_Tree) = true)
    (no_Tree_beaten : PySem.W.findIn K (.ref c_Tree) "beaten" = some none)
    (no_Tree_many : PySem.W.findIn K (.ref c_Tree) "many" = some none)
    (no_Tree_slots : PySem.W.findIn K (.ref c_Tree) "slots" = some none)
    (sp_Tree_slot_of : PySem.W.specialIn K (.ref f_Tree_slot_of) "__get__" = some (some (.builtin "function.__get__")))
    (tk_Tree_slot_of : PySem.W.takesIn K (.ref f_Tree_slot_of) = some false)
    (fi_Tree_slot_of : PySem.W.fnIn K f_Tree_slot_of = true)
    (x_NoSize : PySem.W.excIn K c_NoSize [.type "ValueError", .type "Exception", .type "BaseException", .type "object"] "ValueError.__new__" = true)
    (k_NoSize : PySem.W.keepIn K (.ref c_NoSize) = true)
    (eb_NoSize : PySem.W.subIn K (.ref c_NoSize) (.type "BaseException") = some true)
    (et_NoSize : PySem.W.typeIn K (.ref c_NoSize) = some (.type "type"))
    (x_NotDue : PySem.W.excIn K c_NotDue [.type "ValueError", .type "Exception", .type "BaseException", .type "object"] "ValueError.__new__" = true)
    (k_NotDue : PySem.W.keepIn K (.ref c_NotDue) = true)
    (eb_NotDue : PySem.W.subIn K (.ref c_NotDue) (.type "BaseException") = some true)
    (et_NotDue : PySem.W.typeIn K (.ref c_NotDue) = some (.type "type"))
    (n_bool : PySem.W.nsIn K mainGlobals "bool" = some none)
    (n_int : PySem.W.nsIn K mainGlobals "int" = some none)
    (n_isinstance : PySem.W.nsIn K mainGlobals "isinstance" = some none)
    (n_len : PySem.W.nsIn K mainGlobals "len" = some none)
    (n_list : PySem.W.nsIn K mainGlobals "list" = some none)
    (n_max : PySem.W.nsIn K mainGlobals "max" = some none)
    (n_min : PySem.W.nsIn K mainGlobals "min" = some none)
    (n_range : PySem.W.nsIn K mainGlobals "range" = some none)
    (n_sorted : PySem.W.nsIn K mainGlobals "sorted" = some none)
    (a_OPEN : PySem.W.nsIn K mainGlobals "OPEN" = some (some (.int (-1) t_OPEN))) :
    ∃ fd : FuncData, (∀ (s : Shared) (u : Value), BindsTo s fd ⟨[u], []⟩ [("_law_script", u)]) ∧ ∀ base : Heap, K.In base → base.Ns mainGlobals mg → FnOk P w K mg base (L2.CX P w) 7 fa fd ["_law_script"] (spLaw K) := by
  have e := hfa.symm.trans (PySem.W.mg_of X G a_law)
  cases e
  have T : Txt K (fun i => ([c_Tree, 0, c_NoSize, c_NotDue] : List Addr).getD i 0) mg f_is_whole f_Tree_comes_out f_Tree_slot_of f_Tree_left f_Tree_beaten_by f__law_drawn f__law_size f_is_between f_Tree_champion f_slots_of f_Tree___init__ f_Tree_due f_Tree_told f__law_right fa _ _ _ _ _ _ _ _ _ _ _ _ _ _ _ (.int (-1) t_OPEN) := {
    inj := attOf_inj (by decide +kernel) (by decide +kernel)
    fn_is_whole := fun_mk (st := s_is_whole) l_is_whole d_is_whole k_is_whole
    b_is_whole := (fun_mk (st := s_is_whole) l_is_whole d_is_whole k_is_whole).binds (ps := ["thing"]) fun _ _ _ _ _ _ us hl => match us, hl with | [_], _ => rfl
    g_is_whole := PySem.W.mg_of X G a_is_whole
    k_is_whole := k_is_whole
    fn_Tree_comes_out := fun_mk (st := s_Tree_comes_out) l_Tree_comes_out d_Tree_comes_out k_Tree_comes_out
    b_Tree_comes_out := (fun_mk (st := s_Tree_comes_out) l_Tree_comes_out d_Tree_comes_out k_Tree_comes_out).binds (ps := ["self", "one", "other", "found"]) fun _ _ _ _ _ _ us hl => match us, hl with | [_, _, _, _], _ => rfl
    fn_Tree_slot_of := fun_mk (st := s_Tree_slot_of) l_Tree_slot_of d_Tree_slot_of k_Tree_slot_of
    b_Tree_slot_of := (fun_mk (st := s_Tree_slot_of) l_Tree_slot_of d_Tree_slot_of k_Tree_slot_of).binds (ps := ["self", "pair"]) fun _ _ _ _ _ _ us hl => match us, hl with | [_, _], _ => rfl
    fn_Tree_left := fun_mk (st := s_Tree_left) l_Tree_left d_Tree_left k_Tree_left
    b_Tree_left := (fun_mk (st := s_Tree_left) l_Tree_left d_Tree_left k_Tree_left).binds (ps := ["self"]) fun _ _ _ _ _ _ us hl => match us, hl with | [_], _ => rfl
    fn_Tree_beaten_by := fun_mk (st := s_Tree_beaten_by) l_Tree_beaten_by d_Tree_beaten_by k_Tree_beaten_by
    b_Tree_beaten_by := (fun_mk (st := s_Tree_beaten_by) l_Tree_beaten_by d_Tree_beaten_by k_Tree_beaten_by).binds (ps := ["self", "player"]) fun _ _ _ _ _ _ us hl => match us, hl with | [_, _], _ => rfl
    fn__law_drawn := fun_mk (st := s__law_drawn) l__law_drawn d__law_drawn k__law_drawn
    b__law_drawn := (fun_mk (st := s__law_drawn) l__law_drawn d__law_drawn k__law_drawn).binds (ps := ["_law_script", "_law_k", "_law_size_here"]) fun _ _ _ _ _ _ us hl => match us, hl with | [_, _, _], _ => rfl
    g__law_drawn := PySem.W.mg_of X G a__law_drawn
    k__law_drawn := k__law_drawn
    fn__law_size := fun_mk (st := s__law_size) l__law_size d__law_size k__law_size
    b__law_size := (fun_mk (st := s__law_size) l__law_size d__law_size k__law_size).binds (ps := ["_law_player"]) fun _ _ _ _ _ _ us hl => match us, hl with | [_], _ => rfl
    g__law_size := PySem.W.mg_of X G a__law_size
    k__law_size := k__law_size
    fn_is_between := fun_mk (st := s_is_between) l_is_between d_is_between k_is_between
    b_is_between := (fun_mk (st := s_is_between) l_is_between d_is_between k_is_between).binds (ps := ["thing", "low", "high"]) fun _ _ _ _ _ _ us hl => match us, hl with | [_, _, _], _ => rfl
    g_is_between := PySem.W.mg_of X G a_is_between
    k_is_between := k_is_between
    fn_Tree_champion := fun_mk (st := s_Tree_champion) l_Tree_champion d_Tree_champion k_Tree_champion
    b_Tree_champion := (fun_mk (st := s_Tree_champion) l_Tree_champion d_Tree_champion k_Tree_champion).binds (ps := ["self"]) fun _ _ _ _ _ _ us hl => match us, hl with | [_], _ => rfl
    fn_slots_of := fun_mk (st := s_slots_of) l_slots_of d_slots_of k_slots_of
    b_slots_of := (fun_mk (st := s_slots_of) l_slots_of d_slots_of k_slots_of).binds (ps := ["n"]) fun _ _ _ _ _ _ us hl => match us, hl with | [_], _ => rfl
    g_slots_of := PySem.W.mg_of X G a_slots_of
    k_slots_of := k_slots_of
    fn_Tree___init__ := fun_mk (st := s_Tree___init__) l_Tree___init__ d_Tree___init__ k_Tree___init__
    b_Tree___init__ := (fun_mk (st := s_Tree___init__) l_Tree___init__ d_Tree___init__ k_Tree___init__).binds (ps := ["self", "n"]) fun _ _ _ _ _ _ us hl => match us, hl with | [_, _], _ => rfl
    fn_Tree_due := fun_mk (st := s_Tree_due) l_Tree_due d_Tree_due k_Tree_due
    b_Tree_due := (fun_mk (st := s_Tree_due) l_Tree_due d_Tree_due k_Tree_due).binds (ps := ["self"]) fun _ _ _ _ _ _ us hl => match us, hl with | [_], _ => rfl
    fn_Tree_told := fun_mk (st := s_Tree_told) l_Tree_told d_Tree_told k_Tree_told
    b_Tree_told := (fun_mk (st := s_Tree_told) l_Tree_told d_Tree_told k_Tree_told).binds (ps := ["self", "winner", "loser"]) fun _ _ _ _ _ _ us hl => match us, hl with | [_, _, _], _ => rfl
    fn__law_right := fun_mk (st := s__law_right) l__law_right d__law_right k__law_right
    b__law_right := (fun_mk (st := s__law_right) l__law_right d__law_right k__law_right).binds (ps := ["_law_script", "_law_turn", "_law_n"]) fun _ _ _ _ _ _ us hl => match us, hl with | [_, _, _], _ => rfl
    g__law_right := PySem.W.mg_of X G a__law_right
    k__law_right := k__law_right
    fn_law := fun_mk (st := s_law) l_law d_law k_law
    b_law := (fun_mk (st := s_law) l_law d_law k_law).binds (ps := ["_law_script"]) fun _ _ _ _ _ _ us hl => match us, hl with | [_], _ => rfl
    g_law := PySem.W.mg_of X G a_law
    k_law := k_law
    cl_Tree := ⟨pg_Tree, hd_Tree, po_Tree, sa_Tree⟩
    g_Tree := PySem.W.mg_of X G a_Tree
    mk_Tree := ⟨mk_Tree, a_Tree___init__, i_Tree___init__, kc_Tree⟩
    no_Tree_beaten := no_Tree_beaten
    no_Tree_many := no_Tree_many
    no_Tree_slots := no_Tree_slots
    mt_Tree_comes_out := ⟨a_Tree_comes_out, i_Tree_comes_out, k_Tree_comes_out⟩
    mt_Tree_due := ⟨a_Tree_due, i_Tree_due, k_Tree_due⟩
    mt_Tree_slot_of := ⟨a_Tree_slot_of, i_Tree_slot_of, k_Tree_slot_of⟩
    mt_Tree_told := ⟨a_Tree_told, i_Tree_told, k_Tree_told⟩
    mt_Tree_left := ⟨a_Tree_left, i_Tree_left, k_Tree_left⟩
    mt_Tree_beaten_by := ⟨a_Tree_beaten_by, i_Tree_beaten_by, k_Tree_beaten_by⟩
    mt_Tree_champion := ⟨a_Tree_champion, i_Tree_champion, k_Tree_champion⟩
    bm_Tree_slot_of := ⟨⟨a_Tree_slot_of, i_Tree_slot_of, k_Tree_slot_of⟩, sp_Tree_slot_of, tk_Tree_slot_of, (by decide +kernel), fi_Tree_slot_of⟩
    x_NoSize := x_NoSize
    g_NoSize := PySem.W.mg_of X G a_NoSize
    k_NoSize := k_NoSize
    eb_NoSize := eb_NoSize
    et_NoSize := et_NoSize
    x_NotDue := x_NotDue
    g_NotDue := PySem.W.mg_of X G a_NotDue
    k_NotDue := k_NotDue
    eb_NotDue := eb_NotDue
    et_NotDue := et_NotDue
    n_bool := PySem.W.mg_none_of X G n_bool
    n_int := PySem.W.mg_none_of X G n_int
    n_isinstance := PySem.W.mg_none_of X G n_isinstance
    n_len := PySem.W.mg_none_of X G n_len
    n_list := PySem.W.mg_none_of X G n_list
    n_max := PySem.W.mg_none_of X G n_max
    n_min := PySem.W.mg_none_of X G n_min
    n_range := PySem.W.mg_none_of X G n_range
    n_sorted := PySem.W.mg_none_of X G n_sorted
    g_OPEN := PySem.W.mg_of X G a_OPEN
    r_OPEN := ⟨t_OPEN, rfl⟩ }
  exact ⟨PySem.W.fnOf "law" "law" (defArgs s_law) (defBody s_law) (defScope s_law) .none kv_law dc_law pm_law an_law cd_law ct_law, fun s v => .of_eq rfl, fun base _ _ => (ok_law T).imp fun vs H Q E z => law_spec (N := NN K _) hL z⟩
theorem walk_ok {l : PySem.W.OpenLaw} {q : Program} {loose : List Str} {XP : (Str → Option Value) → Heap → Prop} {YP : World → Heap → Prop} {d : DefRec} {K : Params → PySem.W.Frag} (hn : l.most = some 63) (hdf : d.params.defaults = [])
    (hY : ∀ (w : World) (h : Heap), YP w h → (K w.params).In h)
    (F : ∀ (w : World) (mg : Str → Option Value) (fa : Addr) (h : Heap), (K w.params).In h → h.Ns mainGlobals mg → mg d.name = some (.ref fa) →
      ∃ fd : FuncData, (∀ (s : Shared) (u : Value), BindsTo s fd ⟨[u], []⟩ [("_law_script", u)]) ∧ ∀ base : Heap, (K w.params).In base → base.Ns mainGlobals mg → FnOk l.prog w (K w.params) mg base (L2.CX l.prog w) 7 fa fd ["_law_script"] (spLaw (K w.params))) :
    PySem.W.WalkO q loose XP YP l.row.toRowW d [] (fun f vs => PySem.call f vs) :=
  L2.walk_of (n := 63) (k := 7) (x := "_law_script") (CX := fun w => L2.CX l.prog w) (sp := fun w => spLaw (K w.params)) hn (by decide) hdf ⟨rfl, by decide, by decide⟩ hY F (fun _ _ a ns hl _ hS => ⟨a, ns, rfl, hl, hS, fun _ => rfl⟩) fun _ _ _ _ _ z => by
    obtain ⟨_, _, _, _, _, _, _, _, _, _, _, _, f⟩ := z
    exact f.elim
end Cd
open PySem PySem.W PyProof.Rows
set_option maxHeartbeats 0 in
theorem PySem.Challenge.cw_cupdraw_k33_whole_lesser_ones_win_holds : PySem.Challenge.rw_cupdraw_k33_whole_lesser_ones_win.Holds := by
  w_on; o_law; k_head; (case hw => w_witness2)
  k_fill
  refine Cd.walk_ok (l := PySem.Challenge.rw_cupdraw_k33_whole_lesser_ones_win) rfl rfl (fun w h Y => PySem.W.kIn_of Y) ?F
  case F =>
    intro w mg fa h KX G hmg
    refine' Cd.all_mk Cd.law_holds KX G hmg ?a_Tree ?a_NoSize ?a_NotDue ?a_is_whole ?l_is_whole ?d_is_whole ?k_is_whole ?a_Tree_comes_out ?i_Tree_comes_out ?l_Tree_comes_out ?d_Tree_comes_out ?k_Tree_comes_out ?a_Tree_slot_of ?i_Tree_slot_of ?l_Tree_slot_of ?d_Tree_slot_of ?k_Tree_slot_of ?a_Tree_left ?i_Tree_left ?l_Tree_left ?d_Tree_left ?k_Tree_left ?a_Tree_beaten_by ?i_Tree_beaten_by ?l_Tree_beaten_by ?d_Tree_beaten_by ?k_Tree_beaten_by ?a__law_drawn ?l__law_drawn ?d__law_drawn ?k__law_drawn ?a__law_size ?l__law_size ?d__law_size ?k__law_size ?a_is_between ?l_is_between ?d_is_between ?k_is_between ?a_Tree_champion ?i_Tree_champion ?l_Tree_champion ?d_Tree_champion ?k_Tree_champion ?a_slots_of ?l_slots_of ?d_slots_of ?k_slots_of ?a_Tree___init__ ?i_Tree___init__ ?l_Tree___init__ ?d_Tree___init__ ?k_Tree___init__ ?a_Tree_due ?i_Tree_due ?l_Tree_due ?d_Tree_due ?k_Tree_due ?a_Tree_told ?i_Tree_told ?l_Tree_told ?d_Tree_told ?k_Tree_told ?a__law_right ?l__law_right ?d__law_right ?k__law_right ?a_law ?l_law ?d_law ?k_law ?pg_Tree ?hd_Tree ?po_Tree ?sa_Tree ?mk_Tree ?kc_Tree ?no_Tree_beaten ?no_Tree_many ?no_Tree_slots ?sp_Tree_slot_of ?tk_Tree_slot_of ?fi_Tree_slot_of ?x_NoSize ?k_NoSize ?eb_NoSize ?et_NoSize ?x_NotDue ?k_NotDue ?eb_NotDue ?et_NotDue ?n_bool ?n_int ?n_isinstance ?n_len ?n_list ?n_max ?n_min ?n_range ?n_sorted ?a_OPEN
    (case a_Tree => k_is)
    (case a_NoSize => k_is)
    (case a_NotDue => k_is)
    (case a_is_whole => k_is)
    (case l_is_whole => k_is)
    (case d_is_whole => k_is)
    (case k_is_whole => k_is)
    (case a_Tree_comes_out => k_is)
    (case i_Tree_comes_out => k_is)
    (case l_Tree_comes_out => k_is)
    (case d_Tree_comes_out => k_is)
    (case k_Tree_comes_out => k_is)
    (case a_Tree_slot_of => k_is)
    (case i_Tree_slot_of => k_is)
    (case l_Tree_slot_of => k_is)
    (case d_Tree_slot_of => k_is)
    (case k_Tree_slot_of => k_is)
    (case a_Tree_left => k_is)
    (case i_Tree_left => k_is)
    (case l_Tree_left => k_is)
    (case d_Tree_left => k_is)
    (case k_Tree_left => k_is)
    (case a_Tree_beaten_by => k_is)
    (case i_Tree_beaten_by => k_is)
    (case l_Tree_beaten_by => k_is)
    (case d_Tree_beaten_by => k_is)
    (case k_Tree_beaten_by => k_is)
    (case a__law_drawn => k_is)
    (case l__law_drawn => k_is)
    (case d__law_drawn => k_is)
    (case k__law_drawn => k_is)
    (case a__law_size => k_is)
    (case l__law_size => k_is)
    (case d__law_size => k_is)
    (case k__law_size => k_is)
    (case a_is_between => k_is)
    (case l_is_between => k_is)
    (case d_is_between => k_is)
    (case k_is_between => k_is)
    (case a_Tree_champion => k_is)
    (case i_Tree_champion => k_is)
    (case l_Tree_champion => k_is)
    (case d_Tree_champion => k_is)
    (case k_Tree_champion => k_is)
    (case a_slots_of => k_is)
    (case l_slots_of => k_is)
    (case d_slots_of => k_is)
    (case k_slots_of => k_is)
    (case a_Tree___init__ => k_is)
    (case i_Tree___init__ => k_is)
    (case l_Tree___init__ => k_is)
    (case d_Tree___init__ => k_is)
    (case k_Tree___init__ => k_is)
    (case a_Tree_due => k_is)
    (case i_Tree_due => k_is)
    (case l_Tree_due => k_is)
    (case d_Tree_due => k_is)
    (case k_Tree_due => k_is)
    (case a_Tree_told => k_is)
    (case i_Tree_told => k_is)
    (case l_Tree_told => k_is)
    (case d_Tree_told => k_is)
    (case k_Tree_told => k_is)
    (case a__law_right => k_is)
    (case l__law_right => k_is)
    (case d__law_right => k_is)
    (case k__law_right => k_is)
    (case a_law => k_is)
    (case l_law => k_is)
    (case d_law => k_is)
    (case k_law => k_is)
    (case pg_Tree => k_is)
    (case hd_Tree => k_is)
    (case po_Tree => k_is)
    (case sa_Tree => k_is)
    (case mk_Tree => k_is)
    (case kc_Tree => k_is)
    (case no_Tree_beaten => k_is)
    (case no_Tree_many => k_is)
    (case no_Tree_slots => k_is)
    (case sp_Tree_slot_of => k_is)
    (case tk_Tree_slot_of => k_is)
    (case fi_Tree_slot_of => k_is)
    (case x_NoSize => k_exc)
    (case k_NoSize => k_is)
    (case eb_NoSize => k_is)
    (case et_NoSize => k_is)
    (case x_NotDue => k_exc)
    (case k_NotDue => k_is)
    (case eb_NotDue => k_is)
    (case et_NotDue => k_is)
    (case n_bool => k_is)
    (case n_int => k_is)
    (case n_isinstance => k_is)
    (case n_len => k_is)
    (case n_list => k_is)
    (case n_max => k_is)
    (case n_min => k_is)
    (case n_range => k_is)
    (case n_sorted => k_is)
    (case a_OPEN => k_is)
#print axioms PySem.Challenge.cw_cupdraw_k33_whole_lesser_ones_win_holds

