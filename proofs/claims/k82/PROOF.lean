import PyProof.Rows.All
import PySem.Challenge.RW_paperhall_k82_whole_rules_that_follow_or
import PySem.Str
import Wide.All
import OpenK.AllK
import Wide.FinOn
import HandS.ForMost
import HandS.Codes
import HandS.Style
import HandS.Deep
import HandS.TupAny
import HandS.TupMul
import HandS.Conv
import HandS.Strs
import HandS.IsInst
import HandS.Zip
import HandS.TupLe
import KE.GoesEnum
import KE.KDictZip
import PyProof.ListNew
import KE.GoesZip
import KE.GoesMore
section
set_option Elab.async false
set_option linter.all false
/-! RpD: Python's data and statements as plain Lean functions (no heap): values D, results Res, combinators. -/
namespace RP
open PySem (Str)

inductive D where
  | non | bl (b : Bool) | int (i : Int) | str (s : Str)
  | tup (xs : List D) | lst (xs : List D)
  | dct (ks vs : List D)
  | scr (xs : List D)
  | obj (n : Nat)
  deriving Inhabited

/-- the longest list, tuple, text -/
def LIM : Nat := 16777216

abbrev Cells := List (List D)
inductive Res (α : Type) where
  | ok (a : α) (cs : Cells)
  | exc (c : Str) (cs : Cells)
  | bad
def M (α : Type) : Type := Cells → Res α
def M.ret {α : Type} (a : α) : M α := fun cs => .ok a cs
def M.bind {α β : Type} (x : M α) (f : α → M β) : M β := fun cs => match x cs with
  | .ok a cs' => f a cs'
  | .exc c cs' => .exc c cs'
  | .bad => .bad
def M.bad {α : Type} : M α := fun _ => .bad
instance : Monad M where
  pure := M.ret
  bind := M.bind
theorem M.pure_eq {α : Type} (a : α) (cs : Cells) : (pure a : M α) cs = .ok a cs := rfl
theorem M.ret_eq {α : Type} (a : α) (cs : Cells) : (M.ret a : M α) cs = .ok a cs := rfl
theorem M.bad_eq {α : Type} (cs : Cells) : (M.bad : M α) cs = .bad := rfl
theorem M.bind_eq {α β : Type} (x : M α) (f : α → M β) (cs : Cells) : (x >>= f) cs = match x cs with
  | .ok a cs' => f a cs'
  | .exc c cs' => .exc c cs'
  | .bad => .bad := rfl
theorem M.bind_eq' {α β : Type} (x : M α) (f : α → M β) (cs : Cells) : M.bind x f cs = match x cs with
  | .ok a cs' => f a cs'
  | .exc c cs' => .exc c cs'
  | .bad => .bad := rfl
theorem M.bind_ok {α β : Type} {x : M α} {f : α → M β} {cs cs' : Cells} {a : α} (h : x cs = .ok a cs') : (x >>= f) cs = f a cs' := by
  show M.bind x f cs = _
  unfold M.bind
  rw [h]

/-- what a local name holds: nothing, a value, a list of its own that statements may change -/
inductive Sl where
  | no | va (d : D) | own (xs : List D)
  deriving Inhabited
abbrev Env := List Sl

abbrev EF := Env → M D
abbrev XF := Env → M Sl
abbrev TF := Env → M Bool
abbrev AF := Env → M (List D)
abbrev AXF := Env → M (List Sl)
abbrev GF := D → Env → M Env
inductive Fl where
  | nx (ρ : Env) | rt (d : D) | bk (ρ : Env) | ct (ρ : Env)
  deriving Inhabited
abbrev SF := Env → M Fl

/-! ### expressions -/
def eLit (d : D) : EF := fun _ => pure d
def eVar (i : Nat) : EF := fun ρ => match ρ[i]? with
  | some (.va d) => pure d
  | _ => M.bad
/-- a name that is only read -/
def eOpd (i : Nat) : EF := fun ρ => match ρ[i]? with
  | some (.va d) => pure d
  | some (.own xs) => pure (.lst xs)
  | _ => M.bad
def eOp1 (g : D → M D) (a : EF) : EF := fun ρ => a ρ >>= g
def eOp2 (g : D → D → M D) (a b : EF) : EF := fun ρ => a ρ >>= fun x => b ρ >>= fun y => g x y
def aNil : AF := fun _ => pure []
def aCons (a : EF) (r : AF) : AF := fun ρ => a ρ >>= fun x => r ρ >>= fun xs => pure (x :: xs)
def eTup (as : AF) : EF := fun ρ => as ρ >>= fun xs => pure (.tup xs)
def eLst (as : AF) : EF := fun ρ => as ρ >>= fun xs => pure (.lst xs)
def eNew (as : AF) : EF := fun ρ => as ρ >>= fun xs => fun cs => .ok (.obj cs.length) (cs ++ [xs])
def eCall (c : List D → M D) (as : AF) : EF := fun ρ => as ρ >>= c
def eIf (t : TF) (a b : EF) : EF := fun ρ => t ρ >>= fun c => if c = true then a ρ else b ρ
def eBl (t : TF) : EF := fun ρ => t ρ >>= fun c => pure (.bl c)
def asBl : D → M Bool
  | .bl b => pure b
  | _ => M.bad
def eAndV (a b : EF) : EF := fun ρ => a ρ >>= fun x => asBl x >>= fun c => if c = true then b ρ else pure (.bl false)
def eOrV (a b : EF) : EF := fun ρ => a ρ >>= fun x => asBl x >>= fun c => if c = true then pure (.bl true) else b ρ
def eNotV (a : EF) : EF := fun ρ => a ρ >>= fun x => asBl x >>= fun c => pure (.bl (!c))
def eChain (g g' : D → D → M D) (a b c : EF) : EF := fun ρ => a ρ >>= fun x => b ρ >>= fun y => g x y >>= fun z => asBl z >>= fun k =>
  if k = true then c ρ >>= fun w => g' y w else pure (.bl false)
/-! ### tests -/
def tVal (a : EF) : TF := fun ρ => a ρ >>= asBl
def tAnd (a b : TF) : TF := fun ρ => a ρ >>= fun c => if c = true then b ρ else pure false
def tOr (a b : TF) : TF := fun ρ => a ρ >>= fun c => if c = true then pure true else b ρ
def tNot (a : TF) : TF := fun ρ => a ρ >>= fun c => pure (!c)
def tYes : TF := fun _ => pure true
/-! ### what is stored -/
def xVal (a : EF) : XF := fun ρ => a ρ >>= fun d => pure (.va d)
def xOwn (a : AF) : XF := fun ρ => a ρ >>= fun xs => pure (.own xs)
/-! ### targets -/
def gName (i : Nat) : GF := fun d ρ => pure (ρ.set i (.va d))
def gTupL : List GF → List D → Env → M Env
  | [], [], ρ => pure ρ
  | g :: gs, d :: ds, ρ => g d ρ >>= fun ρ' => gTupL gs ds ρ'
  | _, _, _ => M.bad
def gTup (gs : List GF) : GF := fun d ρ => match d with
  | .tup ds => gTupL gs ds ρ
  | _ => M.bad
/-! ### comprehensions -/
def wipe (ρ : Env) : List Nat → Env
  | [] => ρ
  | v :: vs => (wipe ρ vs).set v .no
def compL (g : GF) (t : TF) (e : EF) (ρ : Env) : List D → M (List D)
  | [] => pure []
  | x :: xs => g x ρ >>= fun ρ1 => t ρ1 >>= fun c => if c = true then e ρ1 >>= fun y => compL g t e ρ xs >>= fun ys => pure (y :: ys) else compL g t e ρ xs
/-- the new list of a comprehension over the items that it gives -/
def cComp (vs : List Nat) (it : AF) (g : GF) (t : TF) (e : EF) : AF := fun ρ => it ρ >>= fun xs => compL g t e (wipe ρ vs) xs
/-! ### statements -/
def sNil : SF := fun ρ => pure (.nx ρ)
def sSeq (a b : SF) : SF := fun ρ => a ρ >>= fun f => match f with
  | .nx ρ' => b ρ'
  | f => pure f
def sExpr (e : EF) : SF := fun ρ => e ρ >>= fun _ => pure (.nx ρ)
def sRet (e : EF) : SF := fun ρ => e ρ >>= fun d => pure (.rt d)
def sRetN : SF := fun _ => pure (.rt .non)
def sIf (t : TF) (a b : SF) : SF := fun ρ => t ρ >>= fun c => if c = true then a ρ else b ρ
def sAsg (g : GF) (e : EF) : SF := fun ρ => e ρ >>= fun d => g d ρ >>= fun ρ' => pure (.nx ρ')
def sSet (i : Nat) (x : XF) : SF := fun ρ => x ρ >>= fun s => pure (.nx (ρ.set i s))
def sPar (i j : Nat) (x y : XF) : SF := fun ρ => x ρ >>= fun s => y ρ >>= fun u => pure (.nx ((ρ.set i s).set j u))
def sAug (i : Nat) (g : D → D → M D) (e : EF) : SF := fun ρ => eVar i ρ >>= fun x => e ρ >>= fun y => g x y >>= fun z => pure (.nx (ρ.set i (.va z)))
/-- name += list, the name's own list -/
def ownAt (i : Nat) (ρ : Env) : M (List D) := match ρ[i]? with
  | some (.own xs) => pure xs
  | _ => M.bad
def fit {α : Type} (n : Nat) (x : M α) : M α := if n ≤ LIM then x else M.bad
def asLst : D → M (List D)
  | .lst xs => pure xs
  | _ => M.bad
def sExt (i : Nat) (e : EF) : SF := fun ρ => ownAt i ρ >>= fun xs => e ρ >>= fun y => asLst y >>= fun ys => fit (xs.length + ys.length) (pure (.nx (ρ.set i (.own (xs ++ ys)))))
def sApp (i : Nat) (e : EF) : SF := fun ρ => ownAt i ρ >>= fun xs => e ρ >>= fun y => fit (xs.length + 1) (pure (.nx (ρ.set i (.own (xs ++ [y])))))
/-- target = name.pop() -/
def sPop (i : Nat) (g : GF) : SF := fun ρ => ownAt i ρ >>= fun xs => match xs.getLast? with
  | some y => g y (ρ.set i (.own xs.dropLast)) >>= fun ρ' => pure (.nx ρ')
  | none => M.bad
/-- a name's own list becomes a plain value -/
def sFrz (i : Nat) : SF := fun ρ => match ρ[i]? with
  | some (.own xs) => pure (.nx (ρ.set i (.va (.lst xs))))
  | some (.va d) => pure (.nx ρ)
  | _ => M.bad
/-- o[i] = e of a shared list -/
def sPut (o k : EF) (e : EF) (put : D → D → D → M Unit) : SF := fun ρ => e ρ >>= fun v => o ρ >>= fun x => k ρ >>= fun y => put x y v >>= fun _ => pure (.nx ρ)
def sBrk : SF := fun ρ => pure (.bk ρ)
def sCnt : SF := fun ρ => pure (.ct ρ)
def forL (g : GF) (b : SF) : List D → Env → M Fl
  | [], ρ => pure (.nx ρ)
  | x :: xs, ρ => g x ρ >>= fun ρ1 => b ρ1 >>= fun f => match f with
    | .nx ρ2 => forL g b xs ρ2
    | .ct ρ2 => forL g b xs ρ2
    | .bk ρ2 => pure (.nx ρ2)
    | .rt d => pure (.rt d)
def sFor (it : AF) (g : GF) (b : SF) : SF := fun ρ => it ρ >>= fun xs => forL g b xs ρ
def whileL (t : TF) (b : SF) : Nat → Env → M Fl
  | 0, _ => M.bad
  | n + 1, ρ => t ρ >>= fun c => if c = true then b ρ >>= fun f => match f with
      | .nx ρ2 => whileL t b n ρ2
      | .ct ρ2 => whileL t b n ρ2
      | .bk ρ2 => pure (.nx ρ2)
      | .rt d => pure (.rt d)
    else pure (.nx ρ)
def sWhile (n : Nat) (t : TF) (b : SF) : SF := fun ρ => whileL t b n ρ
/-- a def's value from its body -/
def runC (n : Nat) (b : SF) (ds : List D) : M D := b (ds.map Sl.va ++ List.replicate (n - ds.length) Sl.no) >>= fun f => match f with
  | .nx _ => pure .non
  | .rt d => pure d
  | _ => M.bad
def runB (np n : Nat) (b : SF) (ds : List D) : M D := if ds.length = np then runC n b ds else M.bad

/-! ### operators by values -/
mutual
def D.dep : D → Nat
  | .tup xs => D.depL xs + 1
  | .lst xs => D.depL xs + 1
  | .dct _ _ => 1000
  | .scr _ => 1000
  | .obj _ => 1000
  | _ => 0
def D.depL : List D → Nat
  | [] => 0
  | x :: xs => max (D.dep x) (D.depL xs)
end
mutual
/-- == -/
def D.eqv : D → D → Bool
  | .non, .non => true
  | .bl a, .bl b => a == b
  | .bl a, .int j => (if a then 1 else 0) == j
  | .int i, .bl b => i == (if b then 1 else 0)
  | .int i, .int j => i == j
  | .str x, .str y => x == y
  | .lst xs, .lst ys => D.eqvL xs ys
  | .tup xs, .tup ys => D.eqvL xs ys
  | _, _ => false
def D.eqvL : List D → List D → Bool
  | [], [] => true
  | x :: xs, y :: ys => D.eqv x y && D.eqvL xs ys
  | _, _ => false
end
def need {α : Type} (b : Bool) (x : M α) : M α := if b = true then x else M.bad
def eqD (x y : D) : M D := need (decide (x.dep ≤ 64) && decide (y.dep ≤ 64)) (pure (.bl (D.eqv x y)))
def neD (x y : D) : M D := need (decide (x.dep ≤ 64) && decide (y.dep ≤ 64)) (pure (.bl (!D.eqv x y)))
def b2i (b : Bool) : Int := if b = true then 1 else 0
def ltD : D → D → M D
  | .int i, .int j => pure (.bl (decide (i < j)))
  | .bl a, .bl b => pure (.bl (decide (b2i a < b2i b)))
  | .str x, .str y => pure (.bl (decide (x.cps.toList < y.cps.toList)))
  | _, _ => M.bad
def leD : D → D → M D
  | .int i, .int j => pure (.bl (decide (i ≤ j)))
  | .str x, .str y => pure (.bl (!decide (y.cps.toList < x.cps.toList)))
  | _, _ => M.bad
def gtD : D → D → M D
  | .int i, .int j => pure (.bl (decide (j < i)))
  | .str x, .str y => pure (.bl (decide (y.cps.toList < x.cps.toList)))
  | _, _ => M.bad
def geD : D → D → M D
  | .int i, .int j => pure (.bl (decide (j ≤ i)))
  | .str x, .str y => pure (.bl (!decide (x.cps.toList < y.cps.toList)))
  | _, _ => M.bad
def isNoneD (x : D) : M D := match x with
  | .non => pure (.bl true)
  | _ => pure (.bl false)
def isNotNoneD (x : D) : M D := match x with
  | .non => pure (.bl false)
  | _ => pure (.bl true)
/-- x is b, of truths -/
def isBlD : D → D → M D
  | .bl a, .bl b => pure (.bl (decide (a = b)))
  | _, _ => M.bad
def isNotBlD : D → D → M D
  | .bl a, .bl b => pure (.bl (!decide (a = b)))
  | _, _ => M.bad
/-- x in y -/
def memD (x : D) (ys : List D) : Bool := ys.any fun y => D.eqv y x
def seqIn (x : D) (ys : List D) : M Bool := need (decide (x.dep ≤ 64) && decide (D.depL ys ≤ 63)) (pure (memD x ys))
def hasSign (x y : Str) : M Bool := match x.cps.toList with
  | [c] => pure (decide (c ∈ y.cps.toList))
  | _ => M.bad
def D.flat : D → Bool
  | .non => true
  | .bl _ => true
  | .int _ => true
  | .str _ => true
  | _ => false
def inB : D → D → M Bool
  | x, .lst ys => seqIn x ys
  | x, .tup ys => need (x.flat && ys.all D.flat) (pure (memD x ys))
  | .str x, .str y => hasSign x y
  | _, _ => M.bad
def inD (x y : D) : M D := inB x y >>= fun b => pure (.bl b)
def notInD (x y : D) : M D := inB x y >>= fun b => pure (.bl (!b))
def addD : D → D → M D
  | .int i, .int j => pure (.int (i + j))
  | .str x, .str y => fit (x.length + y.length) (pure (.str (x ++ y)))
  | .tup xs, .tup ys => fit (xs.length + ys.length) (pure (.tup (xs ++ ys)))
  | .lst xs, .lst ys => fit (xs.length + ys.length) (pure (.lst (xs ++ ys)))
  | _, _ => M.bad
/-- list + list, a new one -/
def catL (a b : EF) : AF := fun ρ => a ρ >>= fun x => b ρ >>= fun y => asLst x >>= fun xs => asLst y >>= fun ys => fit (xs.length + ys.length) (pure (xs ++ ys))
def subD : D → D → M D
  | .int i, .int j => pure (.int (i - j))
  | _, _ => M.bad
def small64 (i : Int) : Bool := decide (-(2 ^ 64) < i) && decide (i < 2 ^ 64)
def repD (xs : List D) (k : Int) : M (List D) := need (decide (0 ≤ k) && decide (k ≤ 1000) && decide (xs.length ≤ 1000)) (pure (List.replicate k.toNat xs).flatten)
def mulD : D → D → M D
  | .int i, .int j => need (small64 i || small64 j) (pure (.int (i * j)))
  | .tup xs, .int k => repD xs k >>= fun ys => pure (.tup ys)
  | _, _ => M.bad
def fdivD : D → D → M D
  | .int i, .int j => need (decide (0 < j) && decide (j < 1073741824)) (pure (.int (i / j)))
  | _, _ => M.bad
def modD : D → D → M D
  | .int i, .int j => need (decide (0 < j)) (pure (.int (i % j)))
  | _, _ => M.bad
def powD : D → D → M D
  | .int i, .int j => need (decide (0 ≤ j) && decide (j ≤ 1000) && small64 i) (pure (.int (i ^ j.toNat)))
  | _, _ => M.bad
def negD : D → M D
  | .int i => pure (.int (-i))
  | _ => M.bad
/-- xs[i], any sign -/
def ixN (n : Nat) (i : Int) : Option Nat := if 0 ≤ i then (if i < n then some i.toNat else none) else if -(n : Int) ≤ i then some (i + n).toNat else none
def atI {α : Type} (xs : List α) (i : Int) : Option α := (ixN xs.length i).bind fun j => xs[j]?
def optM {α : Type} : Option α → M α
  | some a => pure a
  | none => M.bad
def lookD (k : D) : List D → List D → Option D
  | x :: ks, v :: vs => if D.eqv x k = true then some v else lookD k ks vs
  | _, _ => none
def cellAt (n : Nat) : M (List D) := fun cs => match cs[n]? with
  | some xs => .ok xs cs
  | none => .bad
def ixS : D → D → M D
  | .tup xs, .int i => optM (atI xs i)
  | .lst xs, .int i => optM (atI xs i)
  | .str s, .int i => optM (atI s.cps.toList i) >>= fun c => pure (.str ⟨#[c]⟩)
  | .obj n, .int i => cellAt n >>= fun xs => optM (atI xs i)
  | _, _ => M.bad
def getD : D → D → M D
  | .dct ks vs, .str s => optM (lookD (.str s) ks vs)
  | .dct ks vs, .int i => optM (lookD (.int i) ks vs)
  | _, _ => M.bad
def D.isDct : D → Bool
  | .dct _ _ => true
  | _ => false
def ixD (x k : D) : M D := if x.isDct = true then getD x k else ixS x k
def putCell (n j : Nat) (v : D) : M Unit := fun cs => match cs[n]? with
  | some xs => .ok () (cs.set n (xs.set j v))
  | none => .bad
/-- o[i] = v of a shared list -/
def putD : D → D → D → M Unit
  | .obj n, .int i, v => cellAt n >>= fun xs => optM (ixN xs.length i) >>= fun j => putCell n j v
  | _, _, _ => M.bad
/-- xs[lo:hi] -/
def sIx (n d : Nat) : Option Int → Nat
  | none => d
  | some v => if v < 0 then (v + (n : Int)).toNat else min v.toNat n
def cut {α : Type} (xs : List α) (lo hi : Option Int) : List α := (xs.drop (sIx xs.length 0 lo)).take (sIx xs.length xs.length hi - sIx xs.length 0 lo)
abbrev PF := Env → M (Option Int)
def pNone : PF := fun _ => pure none
def asInt : D → M Int
  | .int i => pure i
  | _ => M.bad
def pSome (a : EF) : PF := fun ρ => a ρ >>= fun x => asInt x >>= fun i => pure (some i)
def cutD (x : D) (lo hi : Option Int) : M D := match x with
  | .tup xs => pure (.tup (cut xs lo hi))
  | .lst xs => pure (.lst (cut xs lo hi))
  | .str s => pure (.str ⟨(cut s.cps.toList lo hi).toArray⟩)
  | _ => M.bad
def eSlice (a : EF) (lo hi : PF) : EF := fun ρ => a ρ >>= fun x => lo ρ >>= fun l => hi ρ >>= fun h => cutD x l h
/-- a slice of a list, a new one -/
def lSlice (a : EF) (lo hi : PF) : AF := fun ρ => a ρ >>= fun x => lo ρ >>= fun l => hi ρ >>= fun h => asLst x >>= fun xs => pure (cut xs l h)
/-- t[::-1] -/
def revD : D → M D
  | .tup xs => pure (.tup xs.reverse)
  | _ => M.bad
/-! ### built-in functions by values -/
def lenD : List D → M D
  | [.tup xs] => pure (.int xs.length)
  | [.lst xs] => pure (.int xs.length)
  | [.scr xs] => pure (.int xs.length)
  | [.str s] => pure (.int s.length)
  | _ => M.bad
def absD : List D → M D
  | [.int i] => pure (.int (if i < 0 then -i else i))
  | _ => M.bad
def intD : List D → M D
  | [.int i] => pure (.int i)
  | [.bl b] => pure (.int (if b then 1 else 0))
  | _ => M.bad
def strD : List D → M D
  | [.int i] => need (decide (0 ≤ i) && decide (i < 100)) (pure (.str (toString i : String)))
  | [.str s] => pure (.str s)
  | _ => M.bad
def ordD : List D → M D
  | [.str s] => match s.cps.toList with
    | [c] => pure (.int (c : Nat))
    | _ => M.bad
  | _ => M.bad
def allBl : List D → M (List Bool)
  | [] => pure []
  | .bl b :: r => allBl r >>= fun bs => pure (b :: bs)
  | _ => M.bad
def allD : List D → M D
  | [.lst xs] => allBl xs >>= fun bs => pure (.bl (bs.all id))
  | _ => M.bad
def anyD : List D → M D
  | [.lst xs] => allBl xs >>= fun bs => pure (.bl (bs.any id))
  | _ => M.bad
/-- tuple(x) -/
def tupleD : List D → M D
  | [.lst xs] => pure (.tup xs)
  | [.tup xs] => pure (.tup xs)
  | _ => M.bad
/-- a list or a tuple, its items -/
def asSeq : D → M (List D)
  | .lst xs => pure xs
  | .scr xs => pure xs
  | .tup xs => pure xs
  | _ => M.bad
/-- a call that gives a new list -/
def lCall (g : List D → M (List D)) (as : AF) : AF := fun ρ => as ρ >>= g
/-- list(x), a new one -/
def listD : List D → M (List D)
  | [x] => asSeq x
  | _ => M.bad
def lDisp (as : AF) : AF := as
/-- isinstance(x, T), by T's name -/
inductive Ty where
  | int | bool | str | tuple | list | dict
  deriving DecidableEq
def isIn (x : D) (t : Ty) : M Bool := match x, t with
  | .non, _ => pure false
  | .bl _, .int => pure true
  | .bl _, .bool => pure true
  | .bl _, _ => pure false
  | .int _, .int => pure true
  | .int _, _ => pure false
  | .str _, .str => pure true
  | .str _, _ => pure false
  | .tup _, .tuple => pure true
  | .tup _, _ => pure false
  | .lst _, .list => pure true
  | .lst _, _ => pure false
  | _, _ => M.bad
def eIsin (a : EF) (t : Ty) : EF := fun ρ => a ρ >>= fun x => isIn x t >>= fun b => pure (.bl b)
/-! ### sorted lists of texts -/
def strLe (x y : Str) : Bool := !decide (y.cps.toList < x.cps.toList)
def insS (x : Str) : List Str → List Str
  | [] => [x]
  | y :: ys => if strLe x y = true then x :: y :: ys else y :: insS x ys
def sortS : List Str → List Str
  | [] => []
  | x :: xs => insS x (sortS xs)
def allStr : List D → M (List Str)
  | [] => pure []
  | .str s :: r => allStr r >>= fun ss => pure (s :: ss)
  | _ => M.bad
/-- sorted(x) of texts, a new list -/
def sortD : List D → M (List D)
  | [.lst xs] => allStr xs >>= fun ss => need (decide (ss.length < 64)) (pure ((sortS ss).map D.str))
  | _ => M.bad
/-! ### what loops walk -/
def iSeq (a : EF) : AF := fun ρ => a ρ >>= asSeq
def iStr (a : EF) : AF := fun ρ => a ρ >>= fun x => match x with
  | .str s => pure (s.cps.toList.map fun c => .str ⟨#[c]⟩)
  | _ => M.bad
/-- a list, a tuple, a text -/
def iAny (a : EF) : AF := fun ρ => a ρ >>= fun x => match x with
  | .str s => pure (s.cps.toList.map fun c => .str ⟨#[c]⟩)
  | .lst xs => pure xs
  | .tup xs => pure xs
  | _ => M.bad
def rangeL (lo : Int) (n : Nat) : List D := (List.range n).map fun (i : Nat) => D.int (lo + i)
def mid (i : Int) : Bool := decide (-1000000 ≤ i) && decide (i ≤ 1000000)
def range1D : List D → M (List D)
  | [.int j] => need (mid j) (pure (rangeL 0 j.toNat))
  | _ => M.bad
def range2D : List D → M (List D)
  | [.int i, .int j] => need (mid i && mid j) (pure (rangeL i (j - i).toNat))
  | _ => M.bad
/-- range(a, b, -1) -/
def rangeD (i : Int) (n : Nat) : List D := (List.range n).map fun (k : Nat) => D.int (i + k * (-1))
def range3D : List D → M (List D)
  | [.int i, .int j, .int c] => need (mid i && mid j && decide (c = -1)) (pure (rangeD i (i - j).toNat))
  | _ => M.bad
def zipL (xs ys : List D) : List D := (xs.zip ys).map fun p => D.tup [p.1, p.2]
def asLT : D → M (List D)
  | .lst xs => pure xs
  | .tup xs => pure xs
  | _ => M.bad
/-- zip of two lists or tuples -/
def zipD : List D → M (List D)
  | [x, y] => asLT x >>= fun xs => asLT y >>= fun ys => pure (zipL xs ys)
  | _ => M.bad
/-- list(zip(a, b)) -/
def zipLD : List D → M (List D)
  | [x, y] => asLT x >>= fun xs => asLT y >>= fun ys => fit (min xs.length ys.length) (pure (zipL xs ys))
  | _ => M.bad
/-- enumerate of a list -/
def enumFromD : Nat → List D → List D
  | _, [] => []
  | n, x :: xs => .tup [.int n, x] :: enumFromD (n + 1) xs
def enumD : List D → M (List D)
  | [.lst xs] => pure (enumFromD 0 xs)
  | [.tup xs] => pure (enumFromD 0 xs)
  | _ => M.bad
end RP
end

section
set_option Elab.async false
set_option linter.all false
set_option maxRecDepth 100000
set_option autoImplicit false
/-! RpS1: how plain values stand in the hand layer's heap; the readings of expressions. -/
namespace RP
open PySem PySem.Spec PyProof.Rows L2

abbrev St := L2.St
def okS (s : Str) : Prop := PyData.strOk s = true ∧ s.length ≤ sizeLine

mutual
inductive Rel (K : PySem.W.Frag) (m : List Addr) (G : Hp) : D → V → Prop
  | non : Rel K m G .non .non
  | bl (b : Bool) : Rel K m G (.bl b) (.bl b)
  | int (i : Int) : Rel K m G (.int i) (.int i)
  | str {s : Str} : okS s → Rel K m G (.str s) (.str s)
  | tup {a : Addr} {vs : List V} {ds : List D} : SqT K G a vs → Rels K m G ds vs → Rel K m G (.tup ds) (.ref a)
  | lst {a : Addr} {vs : List V} {ds : List D} : G a = some (.lst vs) → Rels K m G ds vs → Rel K m G (.lst ds) (.ref a)
  | scr {a : Addr} {vs : List V} {ds : List D} : SqL K G a vs → Rels K m G ds vs → Rel K m G (.scr ds) (.ref a)
  | obj {n : Nat} {a : Addr} : m[n]? = some a → Rel K m G (.obj n) (.ref a)
  | dct {a : Addr} {kvs : List (Key × V)} {ks ds : List D} : G a = some (.dK kvs) → Rels K m G ks (kvs.map fun kv => kV kv.1) → Rels K m G ds (kvs.map fun kv => kv.2) → Rel K m G (.dct ks ds) (.ref a)
inductive Rels (K : PySem.W.Frag) (m : List Addr) (G : Hp) : List D → List V → Prop
  | nil : Rels K m G [] []
  | cons {d : D} {v : V} {ds : List D} {vs : List V} : Rel K m G d v → Rels K m G ds vs → Rels K m G (d :: ds) (v :: vs)
end

theorem Same.seqT {K : PySem.W.Frag} {H H' : Hp} {a : Addr} {xs : List V} (e : Same H H') (h : SqT K H a xs) : SqT K H' a xs := by
  rcases h with (h | ⟨o, h⟩) | h
  · exact .inl (.inl (e _ _ h))
  · exact .inl (.inr ⟨o, e _ _ h⟩)
  · exact .inr h

/-- the first list is a beginning of the second -/
def Pre (m m' : List Addr) : Prop := ∀ (n : Nat) (a : Addr), m[n]? = some a → m'[n]? = some a
theorem Pre.refl (m : List Addr) : Pre m m := fun _ _ h => h
theorem Pre.trans {a b c : List Addr} (x : Pre a b) (y : Pre b c) : Pre a c := fun n z h => y n z (x n z h)
theorem Pre.mem {a b : List Addr} (x : Pre a b) {z : Addr} (h : z ∈ a) : z ∈ b := by
  obtain ⟨n, e⟩ := List.getElem?_of_mem h
  exact List.mem_of_getElem? (x n z e)

section
variable {K : PySem.W.Frag} {m m' : List Addr} {G G' : Hp}
mutual
theorem Rel.mono (p : Pre m m') (g : Same G G') : ∀ {d : D} {v : V}, Rel K m G d v → Rel K m' G' d v
  | _, _, .non => .non
  | _, _, .bl b => .bl b
  | _, _, .int i => .int i
  | _, _, .str h => .str h
  | _, _, .tup h r => .tup (Same.seqT g h) (Rels.mono p g r)
  | _, _, .lst h r => .lst (g _ _ h) (Rels.mono p g r)
  | _, _, .scr h r => .scr (g.seq h) (Rels.mono p g r)
  | _, _, .obj h => .obj (p _ _ h)
  | _, _, .dct h k r => .dct (g _ _ h) (Rels.mono p g k) (Rels.mono p g r)
theorem Rels.mono (p : Pre m m') (g : Same G G') : ∀ {ds : List D} {vs : List V}, Rels K m G ds vs → Rels K m' G' ds vs
  | _, _, .nil => .nil
  | _, _, .cons h r => .cons (Rel.mono p g h) (Rels.mono p g r)
end
theorem Rels.length : ∀ {ds : List D} {vs : List V}, Rels K m G ds vs → ds.length = vs.length
  | _, _, .nil => rfl
  | _, _, .cons _ r => by rw [List.length_cons, List.length_cons, Rels.length r]
theorem Rels.get : ∀ {ds : List D} {vs : List V} {i : Nat} {v : V}, Rels K m G ds vs → vs[i]? = some v → ∃ d, ds[i]? = some d ∧ Rel K m G d v
  | _, _, _, _, .nil, h => by simp at h
  | _, _, 0, _, .cons h r, e => by
    have e' := Option.some.inj e
    subst e'
    exact ⟨_, rfl, h⟩
  | _, _, i + 1, _, .cons h r, e => Rels.get (i := i) r e
theorem Rels.get' : ∀ {ds : List D} {vs : List V} {i : Nat} {d : D}, Rels K m G ds vs → ds[i]? = some d → ∃ v, vs[i]? = some v ∧ Rel K m G d v
  | _, _, _, _, .nil, h => by simp at h
  | _, _, 0, _, .cons h r, e => by
    have e' := Option.some.inj e
    subst e'
    exact ⟨_, rfl, h⟩
  | _, _, i + 1, _, .cons h r, e => Rels.get' (i := i) r e
theorem Rels.append : ∀ {ds es : List D} {vs ws : List V}, Rels K m G ds vs → Rels K m G es ws → Rels K m G (ds ++ es) (vs ++ ws)
  | _, _, _, _, .nil, s => s
  | _, _, _, _, .cons h r, s => .cons h (Rels.append r s)
theorem Rels.take : ∀ {ds : List D} {vs : List V} (n : Nat), Rels K m G ds vs → Rels K m G (ds.take n) (vs.take n)
  | _, _, 0, _ => .nil
  | _, _, _ + 1, .nil => .nil
  | _, _, n + 1, .cons h r => .cons h (Rels.take n r)
theorem Rels.drop : ∀ {ds : List D} {vs : List V} (n : Nat), Rels K m G ds vs → Rels K m G (ds.drop n) (vs.drop n)
  | _, _, 0, r => r
  | _, _, _ + 1, .nil => .nil
  | _, _, n + 1, .cons h r => Rels.drop n r
theorem Rels.reverse : ∀ {ds : List D} {vs : List V}, Rels K m G ds vs → Rels K m G ds.reverse vs.reverse
  | _, _, .nil => .nil
  | _, _, .cons h r => by
    rw [List.reverse_cons, List.reverse_cons]
    exact Rels.append (Rels.reverse r) (.cons h .nil)
theorem Rels.set {d : D} {v : V} (h : Rel K m G d v) : ∀ {ds : List D} {vs : List V} (i : Nat), Rels K m G ds vs → Rels K m G (ds.set i d) (vs.set i v)
  | _, _, _, .nil => .nil
  | _, _, 0, .cons _ r => .cons h r
  | _, _, i + 1, .cons q r => .cons q (Rels.set h i r)
theorem Rels.flatten {ds : List D} {vs : List V} (h : Rels K m G ds vs) : ∀ n : Nat, Rels K m G (List.replicate n ds).flatten (List.replicate n vs).flatten
  | 0 => .nil
  | n + 1 => by
    rw [List.replicate_succ, List.replicate_succ, List.flatten_cons, List.flatten_cons]
    exact Rels.append h (Rels.flatten h n)
end

/-- what evaluation may change: new things come, shared lists change, all else stands -/
structure Ext (m : List Addr) (G H : Hp) (m' : List Addr) (G' H' : Hp) : Prop where
  pre : Pre m m'
  frz : Same G G'
  keep : ∀ a o, H a = some o → a ∉ m → H' a = some o
  stay : ∀ a, H a ≠ none → H' a ≠ none
  newG : ∀ a, H a ≠ none → G a = none → G' a = none
  newM : ∀ a, H a ≠ none → a ∉ m → a ∉ m'
theorem Ext.refl (m : List Addr) (G H : Hp) : Ext m G H m G H := ⟨Pre.refl m, Same.refl G, fun _ _ h _ => h, fun _ h => h, fun _ _ h => h, fun _ _ h => h⟩
theorem Ext.trans {m m1 m2 : List Addr} {G G1 G2 H H1 H2 : Hp} (x : Ext m G H m1 G1 H1) (y : Ext m1 G1 H1 m2 G2 H2) : Ext m G H m2 G2 H2 where
  pre := x.pre.trans y.pre
  frz := x.frz.trans y.frz
  keep := fun a o h n => y.keep a o (x.keep a o h n) (x.newM a (by rw [h]; exact fun z => nomatch z) n)
  stay := fun a h => y.stay a (x.stay a h)
  newG := fun a h g => y.newG a (x.stay a h) (x.newG a h g)
  newM := fun a h n => y.newM a (x.stay a h) (x.newM a h n)

/-- the shared lists -/
structure Wf (K : PySem.W.Frag) (m : List Addr) (G H : Hp) (cs : Cells) : Prop where
  sub : Same G H
  len : m.length = cs.length
  cell : ∀ (n : Nat) (ds : List D) (a : Addr), cs[n]? = some ds → m[n]? = some a → ∃ vs, H a = some (.lst vs) ∧ Rels K m G ds vs
  mG : ∀ a, a ∈ m → G a = none
  nd : m.Nodup

/-- a thing laid new and fixed -/
theorem Ext.new {m : List Addr} {G H : Hp} {p : Addr} {o : HO} (hp : H p = none) (sub : Same G H) : Ext m G H m (upd G p o) (upd H p o) where
  pre := Pre.refl m
  frz := fun a u h => by
    have : a ≠ p := fun e => by
      subst e
      have := sub a u h
      rw [hp] at this
      cases this
    rw [upd_ne this]; exact h
  keep := fun a u h _ => by rw [upd_ne (ne_of_none h hp)]; exact h
  stay := fun a h => by
    have : a ≠ p := fun e => by subst e; exact h hp
    rw [upd_ne this]; exact h
  newG := fun a h g => by
    have : a ≠ p := fun e => by subst e; exact h hp
    rw [upd_ne this]; exact g
  newM := fun _ _ h => h
theorem Wf.new {K : PySem.W.Frag} {m : List Addr} {G H : Hp} {cs : Cells} {p : Addr} {o : HO} (W : Wf K m G H cs) (hp : H p = none) : Wf K m (upd G p o) (upd H p o) cs where
  sub := fun a u h => by
    by_cases e : a = p
    · subst e; rw [upd_same] at h ⊢; exact h
    · rw [upd_ne e] at h ⊢; exact W.sub a u h
  len := W.len
  cell := fun n ds a h1 h2 => by
    obtain ⟨vs, e, r⟩ := W.cell n ds a h1 h2
    exact ⟨vs, by rw [upd_ne (ne_of_none e hp)]; exact e, Rels.mono (Pre.refl m) (Ext.new (m := m) hp W.sub).frz r⟩
  mG := fun a h => by
    obtain ⟨n, e⟩ := List.getElem?_of_mem h
    have hn : n < cs.length := by rw [← W.len]; exact (List.getElem?_eq_some_iff.mp e).1
    obtain ⟨vs, e2, _⟩ := W.cell n cs[n] a (List.getElem?_eq_getElem hn) e
    rw [upd_ne (ne_of_none e2 hp)]; exact W.mG a h
  nd := W.nd
/-- a list of the frame's own laid new: tracked, not fixed -/
theorem Ext.own {m : List Addr} {G H : Hp} {p : Addr} {o : HO} (hp : H p = none) : Ext m G H m G (upd H p o) where
  pre := Pre.refl m
  frz := Same.refl G
  keep := fun a u h _ => by rw [upd_ne (ne_of_none h hp)]; exact h
  stay := fun a h => by
    have : a ≠ p := fun e => by subst e; exact h hp
    rw [upd_ne this]; exact h
  newG := fun _ _ h => h
  newM := fun _ _ h => h
theorem Wf.own {K : PySem.W.Frag} {m : List Addr} {G H : Hp} {cs : Cells} {p : Addr} {o : HO} (W : Wf K m G H cs) (hp : H p = none) : Wf K m G (upd H p o) cs where
  sub := fun a u h => by rw [upd_ne (ne_of_none (W.sub a u h) hp)]; exact W.sub a u h
  len := W.len
  cell := fun n ds a h1 h2 => by
    obtain ⟨vs, e, r⟩ := W.cell n ds a h1 h2
    exact ⟨vs, by rw [upd_ne (ne_of_none e hp)]; exact e, r⟩
  mG := W.mG
  nd := W.nd
theorem Wf.noG {K : PySem.W.Frag} {m : List Addr} {G H : Hp} {cs : Cells} (W : Wf K m G H cs) {p : Addr} (hp : H p = none) : G p = none := by
  cases e : G p with
  | none => rfl
  | some o => rw [W.sub p o e] at hp; cases hp
theorem Wf.noM {K : PySem.W.Frag} {m : List Addr} {G H : Hp} {cs : Cells} (W : Wf K m G H cs) {p : Addr} (hp : H p = none) : p ∉ m := fun h => by
  obtain ⟨n, e⟩ := List.getElem?_of_mem h
  have hn : n < cs.length := by rw [← W.len]; exact (List.getElem?_eq_some_iff.mp e).1
  obtain ⟨vs, e2, _⟩ := W.cell n cs[n] p (List.getElem?_eq_getElem hn) e
  rw [hp] at e2; cases e2

/-- a slot -/
def SlR (K : PySem.W.Frag) (m : List Addr) (G H : Hp) : Sl → Option V → Prop
  | .no, _ => True
  | .va d, ov => ∃ v, ov = some v ∧ Rel K m G d v
  | .own ds, ov => ∃ a vs, ov = some (.ref a) ∧ H a = some (.lst vs) ∧ G a = none ∧ a ∉ m ∧ Rels K m G ds vs
theorem SlR.ext {K : PySem.W.Frag} {m m' : List Addr} {G H G' H' : Hp} (x : Ext m G H m' G' H') : ∀ {s : Sl} {ov : Option V}, SlR K m G H s ov → SlR K m' G' H' s ov
  | .no, _, h => h
  | .va d, _, ⟨v, e, r⟩ => ⟨v, e, Rel.mono x.pre x.frz r⟩
  | .own ds, _, ⟨a, vs, e, h, g, n, r⟩ => ⟨a, vs, e, x.keep a _ h n, x.newG a (by rw [h]; exact fun z => nomatch z) g, x.newM a (by rw [h]; exact fun z => nomatch z) n, Rels.mono x.pre x.frz r⟩
structure EnvR (K : PySem.W.Frag) (m : List Addr) (G H : Hp) (ρ : Env) (σ : St) : Prop where
  len : ρ.length = σ.length
  sl : ∀ (i : Nat) (s : Sl), ρ[i]? = some s → ∃ ov, σ[i]? = some ov ∧ SlR K m G H s ov
  dis : ∀ (i j : Nat) (xs ys : List D), i ≠ j → ρ[i]? = some (.own xs) → ρ[j]? = some (.own ys) → σ[i]? ≠ σ[j]?
theorem EnvR.ext {K : PySem.W.Frag} {m m' : List Addr} {G H G' H' : Hp} {ρ : Env} {σ : St} (e : EnvR K m G H ρ σ) (x : Ext m G H m' G' H') : EnvR K m' G' H' ρ σ :=
  ⟨e.len, fun i s h => let ⟨ov, a, b⟩ := e.sl i s h; ⟨ov, a, b.ext x⟩, e.dis⟩

/-- what is wanted behind a computation -/
def Post {α : Type} (K : PySem.W.Frag) (m : List Addr) (G H : Hp) (r : Res α) (P : α → Cells → List Addr → Hp → Hp → Prop) : Prop := match r with
  | .ok a cs' => ∀ m' G' H', Ext m G H m' G' H' → Wf K m' G' H' cs' → P a cs' m' G' H'
  | _ => False
section
variable {α β : Type} {K : PySem.W.Frag} {m : List Addr} {G H : Hp} {cs : Cells}
theorem Post.pure {a : α} {P : α → Cells → List Addr → Hp → Hp → Prop} (W : Wf K m G H cs) (h : Post K m G H ((pure a : M α) cs) P) : P a cs m G H := h m G H (Ext.refl m G H) W
theorem Post.bind {x : M α} {f : α → M β} {P : β → Cells → List Addr → Hp → Hp → Prop} (h : Post K m G H ((x >>= f) cs) P) : Post K m G H (x cs) (fun a cs1 m1 G1 H1 => Post K m1 G1 H1 (f a cs1) P) := by
  rw [M.bind_eq] at h
  cases e : x cs with
  | ok a cs1 =>
    rw [e] at h
    intro m1 G1 H1 x1 W1
    unfold Post at h ⊢
    dsimp only at h
    cases e2 : f a cs1 with
    | ok b cs2 =>
      rw [e2] at h
      exact fun m2 G2 H2 x2 W2 => h m2 G2 H2 (x1.trans x2) W2
    | exc c cs2 => rw [e2] at h; exact h
    | bad => rw [e2] at h; exact h
  | exc c cs1 => rw [e] at h; exact h
  | bad => rw [e] at h; exact h
theorem Post.imp {r : Res α} {P P' : α → Cells → List Addr → Hp → Hp → Prop} (h : Post K m G H r P) (k : ∀ a cs' m' G' H', Ext m G H m' G' H' → Wf K m' G' H' cs' → P a cs' m' G' H' → P' a cs' m' G' H') : Post K m G H r P' := by
  cases r with
  | ok a cs' => exact fun m' G' H' x W => k _ _ _ _ _ x W (h m' G' H' x W)
  | exc c cs' => exact h
  | bad => exact h
theorem Post.map {x : M α} {f : α → β} {P : β → Cells → List Addr → Hp → Hp → Prop} (h : Post K m G H ((x >>= fun a => (Pure.pure (f a) : M β)) cs) P) :
    Post K m G H (x cs) (fun a cs1 _ _ _ => ∀ m' G' H', Ext m G H m' G' H' → Wf K m' G' H' cs1 → P (f a) cs1 m' G' H') := by
  rw [M.bind_eq] at h
  cases e : x cs with
  | ok a cs1 =>
    rw [e] at h
    exact fun m1 G1 H1 x1 W1 => h
  | exc c cs1 => rw [e] at h; exact h
  | bad => rw [e] at h; exact h
theorem Post.impA {r : Res α} {P P' : α → Cells → List Addr → Hp → Hp → Prop} (h : Post K m G H r P) (k : ∀ a cs' m' G' H', r = .ok a cs' → Ext m G H m' G' H' → Wf K m' G' H' cs' → (∀ m1 G1 H1, Ext m G H m1 G1 H1 → Wf K m1 G1 H1 cs' → P a cs' m1 G1 H1) → P' a cs' m' G' H') : Post K m G H r P' := by
  cases r with
  | ok a cs' => exact fun m' G' H' x W => k _ _ _ _ _ rfl x W h
  | exc c cs' => exact h
  | bad => exact h
theorem Post.impE {r : Res α} {P P' : α → Cells → List Addr → Hp → Hp → Prop} (h : Post K m G H r P) (k : ∀ a cs' m' G' H', r = .ok a cs' → Ext m G H m' G' H' → Wf K m' G' H' cs' → P a cs' m' G' H' → P' a cs' m' G' H') : Post K m G H r P' := by
  cases r with
  | ok a cs' => exact fun m' G' H' x W => k _ _ _ _ _ rfl x W (h m' G' H' x W)
  | exc c cs' => exact h
  | bad => exact h
theorem Post.bad {P : α → Cells → List Addr → Hp → Hp → Prop} (h : Post K m G H ((M.bad : M α) cs) P) : False := h
theorem Post.need {b : Bool} {x : M α} {P : α → Cells → List Addr → Hp → Hp → Prop} (h : Post K m G H (RP.need b x cs) P) : b = true ∧ Post K m G H (x cs) P := by
  unfold RP.need at h
  cases b with
  | true => exact ⟨rfl, h⟩
  | false => exact h.elim
theorem Post.fit {n : Nat} {x : M α} {P : α → Cells → List Addr → Hp → Hp → Prop} (h : Post K m G H (RP.fit n x cs) P) : n ≤ LIM ∧ Post K m G H (x cs) P := by
  unfold RP.fit at h
  by_cases e : n ≤ LIM
  · rw [if_pos e] at h; exact ⟨e, h⟩
  · rw [if_neg e] at h; exact h.elim
theorem Post.optM {o : Option α} {P : α → Cells → List Addr → Hp → Hp → Prop} (W : Wf K m G H cs) (h : Post K m G H (RP.optM o cs) P) : ∃ a, o = some a ∧ P a cs m G H := by
  cases o with
  | none => exact h.elim
  | some a => exact ⟨a, rfl, Post.pure W h⟩
end
theorem LIM_eq : LIM = sizeLine := by rw [sizeLine_eq]; rfl

/-- a list that came new is fixed from now on -/
theorem Ext.fix {m m1 : List Addr} {G H G1 H1 : Hp} {a : Addr} {o : HO} (x : Ext m G H m1 G1 H1) (h0 : H a = none) (hG : G1 a = none) : Ext m G H m1 (upd G1 a o) H1 where
  pre := x.pre
  frz := fun b u h => by
    have h1 := x.frz b u h
    rw [upd_ne (ne_of_none h1 hG)]; exact h1
  keep := x.keep
  stay := x.stay
  newG := fun b h g => by
    have : b ≠ a := fun e => by subst e; exact h h0
    rw [upd_ne this]; exact x.newG b h g
  newM := x.newM
theorem Same.fix {G : Hp} {a : Addr} {o : HO} (hG : G a = none) : Same G (upd G a o) := fun b u h => by rw [upd_ne (ne_of_none h hG)]; exact h
theorem Wf.fix {K : PySem.W.Frag} {m : List Addr} {G H : Hp} {cs : Cells} {a : Addr} {o : HO} (W : Wf K m G H cs) (h1 : H a = some o) (hG : G a = none) (hm : a ∉ m) : Wf K m (upd G a o) H cs where
  sub := fun b u h => by
    by_cases e : b = a
    · subst e; rw [upd_same] at h; cases h; exact h1
    · rw [upd_ne e] at h; exact W.sub b u h
  len := W.len
  cell := fun n ds b e1 e2 => by
    obtain ⟨vs, q1, q2⟩ := W.cell n ds b e1 e2
    exact ⟨vs, q1, Rels.mono (Pre.refl m) (Same.fix hG) q2⟩
  mG := fun b hb => by
    have : b ≠ a := fun e => by subst e; exact hm hb
    rw [upd_ne this]; exact W.mG b hb
  nd := W.nd

/-! ### the readings -/
/-- a value that is read: fixed, or a list of the frame's own -/
def RelB (K : PySem.W.Frag) (m : List Addr) (G H : Hp) (d : D) (v : V) : Prop :=
  Rel K m G d v ∨ ∃ a vs ds, d = .lst ds ∧ v = .ref a ∧ H a = some (.lst vs) ∧ G a = none ∧ a ∉ m ∧ Rels K m G ds vs
theorem RelB.ext {K : PySem.W.Frag} {m m' : List Addr} {G H G' H' : Hp} {d : D} {v : V} (x : Ext m G H m' G' H') (r : RelB K m G H d v) : RelB K m' G' H' d v := by
  rcases r with r | ⟨a, vs, ds, e1, e2, h, g, n, r⟩
  · exact .inl (Rel.mono x.pre x.frz r)
  · exact .inr ⟨a, vs, ds, e1, e2, x.keep a _ h n, x.newG a (by rw [h]; exact fun z => nomatch z) g, x.newM a (by rw [h]; exact fun z => nomatch z) n, Rels.mono x.pre x.frz r⟩
section
variable {K : PySem.W.Frag} {m : List Addr} {G H : Hp} {cs : Cells} {v : V}
theorem RelB.non (r : RelB K m G H .non v) : v = .non := by
  rcases r with r | ⟨_, _, _, e, _⟩
  · cases r; rfl
  · cases e
theorem RelB.bl {b : Bool} (r : RelB K m G H (.bl b) v) : v = .bl b := by
  rcases r with r | ⟨_, _, _, e, _⟩
  · cases r; rfl
  · cases e
theorem RelB.int {i : Int} (r : RelB K m G H (.int i) v) : v = .int i := by
  rcases r with r | ⟨_, _, _, e, _⟩
  · cases r; rfl
  · cases e
theorem RelB.str {s : Str} (r : RelB K m G H (.str s) v) : v = .str s ∧ okS s := by
  rcases r with r | ⟨_, _, _, e, _⟩
  · cases r with | str h => exact ⟨rfl, h⟩
  · cases e
theorem RelB.tup {ds : List D} (W : Wf K m G H cs) (r : RelB K m G H (.tup ds) v) : ∃ a vs, v = .ref a ∧ SqT K H a vs ∧ SqT K G a vs ∧ Rels K m G ds vs := by
  rcases r with r | ⟨_, _, _, e, _⟩
  · cases r with | tup h r => exact ⟨_, _, rfl, Same.seqT W.sub h, h, r⟩
  · cases e
theorem RelB.lst {ds : List D} (W : Wf K m G H cs) (r : RelB K m G H (.lst ds) v) : ∃ a vs, v = .ref a ∧ H a = some (.lst vs) ∧ Rels K m G ds vs := by
  rcases r with r | ⟨a, vs, ds', e, rfl, h, _, _, r⟩
  · cases r with | lst h r => exact ⟨_, _, rfl, W.sub _ _ h, r⟩
  · cases e; exact ⟨a, vs, rfl, h, r⟩
theorem RelB.scr {ds : List D} (W : Wf K m G H cs) (r : RelB K m G H (.scr ds) v) : ∃ a vs, v = .ref a ∧ SqL K H a vs ∧ Rels K m G ds vs := by
  rcases r with r | ⟨_, _, _, e, _⟩
  · cases r with | scr h r => exact ⟨_, _, rfl, W.sub.seq h, r⟩
  · cases e
theorem RelB.dct {ks ds : List D} (W : Wf K m G H cs) (r : RelB K m G H (.dct ks ds) v) : ∃ a kvs, v = .ref a ∧ H a = some (.dK kvs) ∧ G a = some (.dK kvs) ∧ Rels K m G ks (kvs.map fun kv => kV kv.1) ∧ Rels K m G ds (kvs.map fun kv => kv.2) := by
  rcases r with r | ⟨_, _, _, e, _⟩
  · cases r with | dct h k r => exact ⟨_, _, rfl, W.sub _ _ h, h, k, r⟩
  · cases e
theorem RelB.obj {n : Nat} (W : Wf K m G H cs) (r : RelB K m G H (.obj n) v) {xs : List D} (h : cs[n]? = some xs) : ∃ a vs, v = .ref a ∧ m[n]? = some a ∧ H a = some (.lst vs) ∧ Rels K m G xs vs := by
  rcases r with r | ⟨_, _, _, e, _⟩
  · cases r with
    | obj hn =>
      obtain ⟨vs, h1, h2⟩ := W.cell n xs _ h hn
      exact ⟨_, vs, rfl, hn, h1, h2⟩
  · cases e
end

def tE (K : PySem.W.Frag) (f : EF) : TE := fun σ H Q => ∃ ρ cs m G, Wf K m G H cs ∧ EnvR K m G H ρ σ ∧ Post K m G H (f ρ cs) (fun d _ m' G' H' => ∀ v, Rel K m' G' d v → Q v H')
def tO (K : PySem.W.Frag) (f : EF) : TE := fun σ H Q => ∃ ρ cs m G, Wf K m G H cs ∧ EnvR K m G H ρ σ ∧ Post K m G H (f ρ cs) (fun d _ m' G' H' => ∀ v, RelB K m' G' H' d v → Q v H')
/-- a new list, not fixed yet -/
def tF (K : PySem.W.Frag) (f : AF) : TE := fun σ H Q => ∃ ρ cs m G, Wf K m G H cs ∧ EnvR K m G H ρ σ ∧ Post K m G H (f ρ cs) (fun ds _ m' G' H' => ∀ a vs, H a = none → H' a = some (.lst vs) → G' a = none → a ∉ m' → Rels K m' G' ds vs → Q (.ref a) H')
def tX (K : PySem.W.Frag) (f : XF) : TE := fun σ H Q => ∃ ρ cs m G, Wf K m G H cs ∧ EnvR K m G H ρ σ ∧ Post K m G H (f ρ cs) (fun s _ m' G' H' => s ≠ .no → ∀ v, SlR K m' G' H' s (some v) → (∀ xs, s = .own xs → ∃ a, v = .ref a ∧ H a = none) → Q v H')
def tT (K : PySem.W.Frag) (f : TF) : TT := fun σ H Q => ∃ ρ cs m G, Wf K m G H cs ∧ EnvR K m G H ρ σ ∧ Post K m G H (f ρ cs) (fun b _ _ _ H' => Q b H')
def tA (K : PySem.W.Frag) (f : AF) : TA := fun σ H Q => ∃ ρ cs m G, Wf K m G H cs ∧ EnvR K m G H ρ σ ∧ Post K m G H (f ρ cs) (fun ds _ m' G' H' => ∀ vs, Rels K m' G' ds vs → Q vs H')
/-- arguments that are only read -/
def RelsB (K : PySem.W.Frag) (m : List Addr) (G H : Hp) (ds : List D) (vs : List V) : Prop := Paired (RelB K m G H) ds vs
theorem RelsB.ext {K : PySem.W.Frag} {m m' : List Addr} {G H G' H' : Hp} (x : Ext m G H m' G' H') : ∀ {ds : List D} {vs : List V}, RelsB K m G H ds vs → RelsB K m' G' H' ds vs
  | _, _, .nil => .nil
  | _, _, .cons h r => .cons (h.ext x) (RelsB.ext x r)
def tB (K : PySem.W.Frag) (f : AF) : TA := fun σ H Q => ∃ ρ cs m G, Wf K m G H cs ∧ EnvR K m G H ρ σ ∧ Post K m G H (f ρ cs) (fun ds _ m' G' H' => ∀ vs, RelsB K m' G' H' ds vs → Q vs H')

theorem _root_.L2.PE.imp {X : Cx} {e : Expr} {t t' : TE} (h : PE X e t) (k : ∀ σ H Q, t' σ H Q → t σ H Q) : PE X e t' := ⟨fun pins s σ H Q I q => h.run pins s σ H Q I (k σ H Q q)⟩
theorem _root_.L2.PT.imp {X : Cx} {e : Expr} {t t' : TT} (h : PT X e t) (k : ∀ σ H Q, t' σ H Q → t σ H Q) : PT X e t' := ⟨fun pins s σ H Q I q => h.run pins s σ H Q I (k σ H Q q)⟩
theorem _root_.L2.PW.imp {X : Cx} {e : Expr} {t t' : TT} (h : PW X e t) (k : ∀ σ H Q, t' σ H Q → t σ H Q) : PW X e t' := ⟨fun wh pins s σ H Q I q => h.run wh pins s σ H Q I (k σ H Q q)⟩
theorem _root_.L2.PA.imp {X : Cx} {es : List Expr} {t t' : TA} (h : PA X es t) (k : ∀ σ H Q, t' σ H Q → t σ H Q) : PA X es t' := ⟨fun pos pins s σ H Q I q => h.run pos pins s σ H Q I (k σ H Q q)⟩
theorem _root_.L2.PS.imp {X : Cx} {st : Stmt} {t t' : TS} (h : PS X st t) (k : ∀ D σ H, t' D σ H → t D σ H) : PS X st t' := ⟨fun pins s σ H D I q => h.run pins s σ H D I (k D σ H q)⟩
theorem _root_.L2.PSs.imp {X : Cx} {st : List Stmt} {t t' : TS} (h : PSs X st t) (k : ∀ D σ H, t' D σ H → t D σ H) : PSs X st t' := ⟨fun pins s σ H D I q => h.run pins s σ H D I (k D σ H q)⟩
end RP
end

section
set_option Elab.async false
set_option linter.all false
set_option maxRecDepth 100000
set_option autoImplicit false
/-! RpS2: the rules of expressions: what the hand layer's rule asks follows from the plain function. -/
namespace RP
open PySem PySem.Spec PyProof.Rows L2

/-! ### contexts -/
structure SCtx where
  N : List Str
  sc : Scope
  fnB : Str → Bool
structure Tab where
  gl : List (Str × D)
  fn : List (Str × (List D → M D))
def prom (K : PySem.W.Frag) (n : Nat) (c : List D → M D) : Sp := fun vs H Q _ => ∃ cs m G ds, Wf K m G H cs ∧ Rels K m G ds vs ∧ vs.length = n ∧
  Post K m G H (c ds cs) (fun d _ m' G' H' => ∀ v, Rel K m' G' d v → Q v H')
/-- a tuple of the module, as it is met by methods -/
def GlT (K : PySem.W.Frag) (d : D) (v : V) : Prop := ∀ a ds, d = .tup ds → v = .ref a → ∃ o : Obj, K.lookup a = some o ∧ o.cls = .type "tuple" ∧ o.dict = none
structure FnT (X : Cx) (x : Str) (c : List D → M D) : Prop where
  ex : ∃ (k : Nat) (f : Addr) (fd : FuncData) (ps : List Str), FnOk X.prog X.w X.K X.mg X.base CX0 k f fd ps (prom X.K ps.length c) ∧ Room k X.A ∧ X.mg x = some (.ref f) ∧ PySem.W.keepIn X.K (.ref f) = true ∧ Binds X.K fd ps [] ∧
    ∀ ds cs r cs', c ds cs = .ok r cs' → ds.length = ps.length
def bltNames : List Str := ["len", "range", "int", "str", "abs", "all", "any", "tuple", "list", "sorted", "isinstance", "zip", "enumerate", "ord", "set", "dict", "bool", "max", "min", "sum", "chr", "reversed"]
structure Good (S : SCtx) (T : Tab) (X : Cx) : Prop where
  N : X.N = S.N
  sc : X.env.scope = S.sc
  nd : X.N.Nodup
  calm : X.calm = true
  xe : X.xe = fun _ _ => False
  hu : X.A.units + 100 < cLine
  blt : ∀ x ∈ bltNames, X.mg x = none
  gl : ∀ (i : Nat) (x : Str) (d : D), T.gl[i]? = some (x, d) → ∃ v u, X.mg x = some u ∧ RelV v u ∧ (∀ m G, Rel X.K m G d v) ∧ GlT X.K d v
  fn : ∀ (i : Nat) (x : Str) (c : List D → M D), T.fn[i]? = some (x, c) → FnT X x c
  fnc : ∀ x, S.fnB x = true → X.fn x = true

/-- the name x in slot i is to be read -/
def visB (S : SCtx) (i : Nat) (x : Str) : Bool := decide (S.N[i]? = some x) && (decide (S.sc.names.lookup x = some .local) || decide (S.sc.names.lookup x = some .cell) || decide (S.sc.names.lookup x = some .free)) &&
  !(x == ("__debug__" : Str)) && !(x == ("__classdict__" : Str))
/-- .. is to be stored -/
def locB (S : SCtx) (i : Nat) (x : Str) : Bool := decide (S.N[i]? = some x) && (decide (S.sc.names.lookup x = some .local) || (decide (S.sc.names.lookup x = some .cell) && S.fnB x))
/-- x is a name of the module or a built-in -/
def glB (S : SCtx) (x : Str) : Bool := decide (S.sc.names.lookup x = some .globalImplicit) && !(x == ("__debug__" : Str)) && !decide (x = ("__name__" : Str))

section
variable {S : SCtx} {T : Tab} {X : Cx}
theorem pe_v (g : Good S T X) {i : Nat} {x : Str} {pos : Pos} (h : visB S i x = true) : PE X (.Name x pos) (tVar i) := by
  unfold visB at h
  simp only [Bool.and_eq_true, Bool.or_eq_true, decide_eq_true_eq, Bool.not_eq_true'] at h
  obtain ⟨⟨⟨h1, h2⟩, h3⟩, h4⟩ := h
  refine pe_var (by rw [g.N]; exact h1) ?_ h3 h4
  unfold Vis
  rw [g.sc]
  rcases h2 with (h2 | h2) | h2
  · exact .inl h2
  · exact .inr (.inl h2)
  · exact .inr (.inr h2)
theorem glG (g : Good S T X) {x : Str} (h : glB S x = true) : Gl X x ∧ (x == ("__debug__" : Str)) = false ∧ x ≠ "__name__" := by
  unfold glB at h
  simp only [Bool.and_eq_true, decide_eq_true_eq, Bool.not_eq_true', decide_eq_false_iff_not] at h
  obtain ⟨⟨h1, h2⟩, h3⟩ := h
  refine ⟨?_, h2, h3⟩
  show X.env.scope.names.lookup x = _
  rw [g.sc]; exact h1
end

/-- the judgements: under every context of that kind -/
def SE (S : SCtx) (T : Tab) (e : Expr) (f : EF) : Prop := ∀ X, Good S T X → PE X e (tE X.K f)
def SO (S : SCtx) (T : Tab) (e : Expr) (f : EF) : Prop := ∀ X, Good S T X → PE X e (tO X.K f)
def SFr (S : SCtx) (T : Tab) (e : Expr) (f : AF) : Prop := ∀ X, Good S T X → PE X e (tF X.K f)
def SX (S : SCtx) (T : Tab) (e : Expr) (f : XF) : Prop := ∀ X, Good S T X → PE X e (tX X.K f)
def ST (S : SCtx) (T : Tab) (e : Expr) (f : TF) : Prop := ∀ X, Good S T X → PT X e (tT X.K f)
def SW (S : SCtx) (T : Tab) (e : Expr) (f : TF) : Prop := ∀ X, Good S T X → PW X e (tT X.K f)
/-- every item is no starred one -/
def noStar : Expr → Bool
  | .Starred _ _ => false
  | _ => true
theorem star_cons {e : Expr} (h : noStar e = true) (es : List Expr) (env : PySem.Env) : starEach (e :: es) env = (false, eval e env) :: starEach es env := by
  cases e <;> first | rfl | cases h
theorem star_any : ∀ {es : List Expr} (h : es.all noStar = true) (pos : Pos) (env : PySem.Env), (backTo pos (starEach es env)).any (·.1) = false := by
  intro es h pos env
  have k : ∀ es : List Expr, es.all noStar = true → (starEach es env).any (·.1) = false := by
    intro es
    induction es with
    | nil => intro _; rfl
    | cons e es ih =>
      intro h
      rw [List.all_cons, Bool.and_eq_true] at h
      rw [star_cons h.1, List.any_cons, ih h.2]
      rfl
  have h1 := k es h
  have h2 : ∀ l : List (Bool × Sem Value), (backTo pos l).any (·.1) = l.any (·.1) := fun l => by
    unfold backTo
    rw [List.any_map]
    rfl
  rw [h2, h1]
structure SA (S : SCtx) (T : Tab) (es : List Expr) (f : AF) : Prop where
  run : ∀ X, Good S T X → PA X es (tA X.K f)
  ns : es.all noStar = true
  len : ∀ ρ cs ds cs', f ρ cs = .ok ds cs' → ds.length = es.length
structure SB (S : SCtx) (T : Tab) (es : List Expr) (f : AF) : Prop where
  run : ∀ X, Good S T X → PA X es (tB X.K f)
  ns : es.all noStar = true

section
variable {S : SCtx} {T : Tab} {e a b c : Expr} {es : List Expr} {pos p : Pos} {f fa fb fc : EF} {fs : AF} {t u : TF}
/-! ### from one judgement to another -/
theorem SE.so (h : SE S T e f) : SO S T e f := fun X g => (h X g).imp fun σ H Q ⟨ρ, cs, m, G, W, E, F⟩ => ⟨ρ, cs, m, G, W, E, F.imp fun _ _ _ _ _ _ _ k v r => k v (.inl r)⟩
theorem SE.sx (h : SE S T e f) : SX S T e (xVal f) := fun X g => (h X g).imp fun σ H Q ⟨ρ, cs, m, G, W, E, F⟩ => ⟨ρ, cs, m, G, W, E, F.bind.imp fun d cs1 m1 G1 H1 x1 W1 F1 v r =>
  (Post.pure W1 F1) (fun z => nomatch z) v ⟨v, rfl, r⟩ (fun _ z => nomatch z)⟩
/-- a new list, fixed -/
theorem SFr.se (h : SFr S T e fs) : SE S T e (eLst fs) := fun X g => (h X g).imp fun σ H Q ⟨ρ, cs, m, G, W, E, F⟩ => ⟨ρ, cs, m, G, W, E, (Post.map F).imp fun ds cs1 m1 G1 H1 x1 W1 F1 a vs h0 h1 hG hm r =>
  F1 m1 (upd G1 a (.lst vs)) H1 (x1.fix h0 hG) (W1.fix h1 hG hm) (.ref a) (.lst upd_same (Rels.mono (Pre.refl m1) (Same.fix hG) r))⟩
theorem SFr.sx (h : SFr S T e fs) : SX S T e (xOwn fs) := fun X g => (h X g).imp fun σ H Q ⟨ρ, cs, m, G, W, E, F⟩ => ⟨ρ, cs, m, G, W, E, F.bind.imp fun ds cs1 m1 G1 H1 x1 W1 F1 a vs h0 h1 hG hm r =>
  (Post.pure W1 F1) (fun z => nomatch z) (.ref a) ⟨a, vs, rfl, h1, hG, hm, r⟩ (fun _ _ => ⟨a, rfl, h0⟩)⟩
end
end RP
end

section
set_option Elab.async false
set_option linter.all false
set_option maxRecDepth 100000
set_option autoImplicit false
/-! RpS3: literals, names, operators, comparisons, tests, calls. -/
namespace RP
open PySem PySem.Spec PyProof.Rows L2

def strOkB (s : Str) : Bool := PyData.strOk s && decide (s.length ≤ 1000)
theorem okS_of {s : Str} (h : strOkB s = true) : okS s := by
  unfold strOkB at h
  rw [Bool.and_eq_true, decide_eq_true_eq] at h
  exact ⟨h.1, Nat.le_of_lt (Nat.lt_of_le_of_lt h.2 (by rw [sizeLine_eq]; decide))⟩

section
variable {S : SCtx} {T : Tab} {e a b c : Expr} {es : List Expr} {pos p : Pos} {f fa fb fc : EF} {fs : AF} {t u : TF}
/-! ### literals and names -/
theorem se_int {i : Int} {k : Nat} : SE S T (.Constant (.int i) k pos) (eLit (.int i)) := fun X g => pe_int.imp fun σ H Q ⟨ρ, cs, m, G, W, E, F⟩ => (Post.pure W F) _ (.int i)
theorem se_bl {i : Bool} {k : Nat} : SE S T (.Constant (.bool i) k pos) (eLit (.bl i)) := fun X g => pe_bl.imp fun σ H Q ⟨ρ, cs, m, G, W, E, F⟩ => (Post.pure W F) _ (.bl i)
theorem se_non {k : Nat} : SE S T (.Constant .none k pos) (eLit .non) := fun X g => pe_non.imp fun σ H Q ⟨ρ, cs, m, G, W, E, F⟩ => (Post.pure W F) _ .non
theorem se_str {x : Str} {k : Nat} (h : strOkB x = true := by decide +kernel) : SE S T (.Constant (.str x) k pos) (eLit (.str x)) := fun X g => pe_str.imp fun σ H Q ⟨ρ, cs, m, G, W, E, F⟩ => (Post.pure W F) _ (.str (okS_of h))
theorem so_var (i : Nat) {x : Str} (h : visB S i x = true := by decide +kernel) : SO S T (.Name x pos) (eOpd i) := fun X g => (pe_v g h).imp fun σ H Q ⟨ρ, cs, m, G, W, E, F⟩ => by
  unfold eOpd at F
  cases e : ρ[i]? with
  | none => rw [e] at F; exact F.elim
  | some s =>
    rw [e] at F
    obtain ⟨ov, e2, r⟩ := E.sl i s e
    cases s with
    | no => exact F.elim
    | va d =>
      obtain ⟨v, rfl, r⟩ := r
      exact ⟨v, e2, Post.pure W F v (.inl r)⟩
    | own xs =>
      obtain ⟨a, vs, rfl, h1, h2, h3, r⟩ := r
      exact ⟨_, e2, Post.pure W F _ (.inr ⟨a, vs, xs, rfl, rfl, h1, h2, h3, r⟩)⟩
theorem se_var (i : Nat) {x : Str} (h : visB S i x = true := by decide +kernel) : SE S T (.Name x pos) (eVar i) := fun X g => (pe_v g h).imp fun σ H Q ⟨ρ, cs, m, G, W, E, F⟩ => by
  unfold eVar at F
  cases e : ρ[i]? with
  | none => rw [e] at F; exact F.elim
  | some s =>
    rw [e] at F
    obtain ⟨ov, e2, r⟩ := E.sl i s e
    cases s with
    | no => exact F.elim
    | va d =>
      obtain ⟨v, rfl, r⟩ := r
      exact ⟨v, e2, Post.pure W F v r⟩
    | own xs => exact F.elim
theorem se_gl (i : Nat) {x : Str} {d : D} (h : T.gl[i]? = some (x, d) := by rfl) (hg : glB S x = true := by decide +kernel) : SE S T (.Name x pos) (eLit d) := fun X g => by
  obtain ⟨v, u, h1, h2, h3, _⟩ := g.gl i x d h
  obtain ⟨q1, q2, q3⟩ := glG g hg
  exact (pe_glob q1 h1 h2 q2).imp fun σ H Q ⟨ρ, cs, m, G, W, E, F⟩ => Post.pure W F v (h3 m G)

/-! ### operators -/
def OpD (K : PySem.W.Frag) (r : R2) (gD : D → D → M D) : Prop := ∀ (m : List Addr) (G H : Hp) (cs : Cells) (dx dy : D) (x y : V) (Q : VK), Wf K m G H cs → RelB K m G H dx x → RelB K m G H dy y →
  Post K m G H (gD dx dy cs) (fun d _ m' G' H' => ∀ v, Rel K m' G' d v → Q v H') → r x y H Q
theorem op2_read {K : PySem.W.Frag} {r : R2} {gD : D → D → M D} (o : OpD K r gD) {σ : St} {H : Hp} {Q : VK} (h : tE K (eOp2 gD fa fb) σ H Q) : tOp r (tO K fa) (tO K fb) σ H Q := by
  obtain ⟨ρ, cs, m, G, W, E, F⟩ := h
  refine ⟨ρ, cs, m, G, W, E, F.bind.imp fun dx cs1 m1 G1 H1 x1 W1 F1 v rv => ?_⟩
  refine ⟨ρ, cs1, m1, G1, W1, E.ext x1, F1.bind.imp fun dy cs2 m2 G2 H2 x2 W2 F2 u ru => ?_⟩
  exact o m2 G2 H2 cs2 dx dy v u Q W2 (rv.ext x2) ru F2
theorem se_op2 {op : Operator} {r : PySem.W.Frag → R2} {gD : D → D → M D} (ho : ∀ X, Good S T X → OpR X (binaryOp op) (r X.K)) (hd : ∀ K, OpD K (r K) gD) (ha : SO S T a fa) (hb : SO S T b fb) : SE S T (.BinOp a op b pos) (eOp2 gD fa fb) :=
  fun X g => (pe_op (ho X g) (ha X g) (hb X g)).imp fun σ H Q h => op2_read (hd X.K) h
theorem se_cmp {op : CmpOp} {r : PySem.W.Frag → R2} {gD : D → D → M D} (ho : ∀ X, Good S T X → OpR X (compareOp op) (r X.K)) (hd : ∀ K, OpD K (r K) gD) (ha : SO S T a fa) (hb : SO S T b fb) (hm : behindInMarks op b = false) :
    SE S T (.Compare a [op] [b] pos) (eOp2 gD fa fb) :=
  fun X g => (pe_cmpR (ho X g) (ha X g) (hb X g) hm).imp fun σ H Q h => op2_read (hd X.K) h
/-- a reading of a value as a test -/
theorem val_read {K : PySem.W.Frag} {σ : St} {H : Hp} {Q : Bool → Hp → Prop} (h : tT K (tVal f) σ H Q) : tE K f σ H fun x H' => ∃ k, x = .bl k ∧ Q k H' := by
  obtain ⟨ρ, cs, m, G, W, E, F⟩ := h
  refine ⟨ρ, cs, m, G, W, E, F.bind.imp fun d cs1 m1 G1 H1 x1 W1 F1 v rv => ?_⟩
  cases d with
  | bl k =>
    cases rv
    exact ⟨k, rfl, Post.pure W1 F1⟩
  | _ => exact F1.elim
theorem st_cmp {op : CmpOp} {r : PySem.W.Frag → R2} {gD : D → D → M D} (ho : ∀ X, Good S T X → OpR X (compareOp op) (r X.K)) (hd : ∀ K, OpD K (r K) gD) (ha : SO S T a fa) (hb : SO S T b fb) (hm : behindInMarks op b = false) :
    ST S T (.Compare a [op] [b] pos) (tVal (eOp2 gD fa fb)) :=
  fun X g => (pt_cmpR (ho X g) (ha X g) (hb X g) hm).imp fun σ H Q h => op2_read (hd X.K) (val_read h)
/-- an expression that gives a truth, as a test -/
theorem st_val (h : SE S T e f) (he : ∀ env whole, isTrue e env whole = (do let v ← whole; standAt e.pos; holding [v] (truthy v)) := by intro _ _; rfl) : ST S T e (tVal f) :=
  fun X g => (pt_val (h X g) (he X.env)).imp fun σ H Q h => val_read h
theorem st_w (h : SW S T e t) : ST S T e t := fun X g => (h X g).pt
theorem st_not (h : ST S T e t) : ST S T (.UnaryOp .Not e pos) (tNot t) := fun X g => (pt_not (h X g)).imp fun σ H Q ⟨ρ, cs, m, G, W, E, F⟩ => ⟨ρ, cs, m, G, W, E, F.bind.imp fun b cs1 m1 G1 H1 x1 W1 F1 => Post.pure W1 F1⟩
theorem sw_and1 (h : ST S T e t) : SW S T (.BoolOp .And [e] pos) t := fun X g => pw_and1 (h X g)
theorem sw_or1 (h : ST S T e t) : SW S T (.BoolOp .Or [e] pos) t := fun X g => pw_or1 (h X g)
theorem sw_and (h : ST S T a t) (h2 : SW S T (.BoolOp .And (b :: es) pos) u) : SW S T (.BoolOp .And (a :: b :: es) pos) (tAnd t u) := fun X g => (pw_and (h X g) (h2 X g)).imp fun σ H Q ⟨ρ, cs, m, G, W, E, F⟩ =>
  ⟨ρ, cs, m, G, W, E, F.bind.imp fun b cs1 m1 G1 H1 x1 W1 F1 => by
    cases b with
    | true => exact iteT ⟨ρ, cs1, m1, G1, W1, E.ext x1, F1⟩
    | false => exact iteF (Post.pure W1 F1)⟩
theorem sw_or (h : ST S T a t) (h2 : SW S T (.BoolOp .Or (b :: es) pos) u) : SW S T (.BoolOp .Or (a :: b :: es) pos) (tOr t u) := fun X g => (pw_or (h X g) (h2 X g)).imp fun σ H Q ⟨ρ, cs, m, G, W, E, F⟩ =>
  ⟨ρ, cs, m, G, W, E, F.bind.imp fun b cs1 m1 G1 H1 x1 W1 F1 => by
    cases b with
    | true => exact iteT (Post.pure W1 F1)
    | false => exact iteF ⟨ρ, cs1, m1, G1, W1, E.ext x1, F1⟩⟩
/-! ### and, or, not as values -/
theorem se_one {op : BoolOp} (h : SE S T a f) : SE S T (.BoolOp op [a] pos) f := fun X g => pe_one (h X g)
theorem bl_read {K : PySem.W.Frag} {m : List Addr} {G H : Hp} {cs : Cells} {α : Type} {d : D} {v : V} {k : Bool → M α} {P : α → Cells → List Addr → Hp → Hp → Prop} (W : Wf K m G H cs) (r : RelB K m G H d v) (F : Post K m G H ((asBl d >>= k) cs) P) :
    ∃ c, v = .bl c ∧ Post K m G H (k c cs) P := by
  cases d with
  | bl c => exact ⟨c, r.bl, F⟩
  | _ => exact F.elim
theorem se_and (h : SE S T a fa) (h2 : SE S T (.BoolOp .And (b :: es) pos) fb) : SE S T (.BoolOp .And (a :: b :: es) pos) (eAndV fa fb) := fun X g => (pe_and (h X g) (h2 X g)).imp fun σ H Q ⟨ρ, cs, m, G, W, E, F⟩ =>
  ⟨ρ, cs, m, G, W, E, F.bind.imp fun d cs1 m1 G1 H1 x1 W1 F1 v rv => by
    obtain ⟨c, rfl, F2⟩ := bl_read W1 (.inl rv) F1
    refine ⟨c, rfl, ?_⟩
    cases c with
    | true => exact iteT ⟨ρ, cs1, m1, G1, W1, E.ext x1, F2⟩
    | false => exact iteF (Post.pure W1 F2 _ (.bl false))⟩
theorem se_or (h : SE S T a fa) (h2 : SE S T (.BoolOp .Or (b :: es) pos) fb) : SE S T (.BoolOp .Or (a :: b :: es) pos) (eOrV fa fb) := fun X g => (pe_or (h X g) (h2 X g)).imp fun σ H Q ⟨ρ, cs, m, G, W, E, F⟩ =>
  ⟨ρ, cs, m, G, W, E, F.bind.imp fun d cs1 m1 G1 H1 x1 W1 F1 v rv => by
    obtain ⟨c, rfl, F2⟩ := bl_read W1 (.inl rv) F1
    refine ⟨c, rfl, ?_⟩
    cases c with
    | true => exact iteT (Post.pure W1 F2 _ (.bl true))
    | false => exact iteF ⟨ρ, cs1, m1, G1, W1, E.ext x1, F2⟩⟩
theorem se_not (h : SE S T a fa) : SE S T (.UnaryOp .Not a pos) (eNotV fa) := fun X g => (pe_not (h X g)).imp fun σ H Q ⟨ρ, cs, m, G, W, E, F⟩ =>
  ⟨ρ, cs, m, G, W, E, F.bind.imp fun d cs1 m1 G1 H1 x1 W1 F1 v rv => by
    obtain ⟨c, rfl, F2⟩ := bl_read W1 (.inl rv) F1
    exact ⟨c, rfl, Post.pure W1 F2 _ (.bl _)⟩⟩
theorem se_if (ht : ST S T c t) (ha : SE S T a fa) (hb : SE S T b fb) : SE S T (.IfExp c a b pos) (eIf t fa fb) := fun X g => (pe_ifExp (ht X g) (ha X g) (hb X g)).imp fun σ H Q ⟨ρ, cs, m, G, W, E, F⟩ =>
  ⟨ρ, cs, m, G, W, E, F.bind.imp fun d cs1 m1 G1 H1 x1 W1 F1 => by
    cases d with
    | true => exact iteT ⟨ρ, cs1, m1, G1, W1, E.ext x1, F1⟩
    | false => exact iteF ⟨ρ, cs1, m1, G1, W1, E.ext x1, F1⟩⟩
/-- a op b op' c -/
theorem chain_read {K : PySem.W.Frag} {r r' : R2} {gD gD' : D → D → M D} (o : OpD K r gD) (o' : OpD K r' gD') {σ : St} {H : Hp} {Q : VK} (h : tE K (eChain gD gD' fa fb fc) σ H Q) : tChain r r' (tO K fa) (tO K fb) (tO K fc) σ H Q := by
  obtain ⟨ρ, cs, m, G, W, E, F⟩ := h
  refine ⟨ρ, cs, m, G, W, E, F.bind.imp fun dx cs1 m1 G1 H1 x1 W1 F1 v rv => ?_⟩
  refine ⟨ρ, cs1, m1, G1, W1, E.ext x1, F1.bind.imp fun dy cs2 m2 G2 H2 x2 W2 F2 u ru => ?_⟩
  refine o m2 G2 H2 cs2 dx dy v u _ W2 (rv.ext x2) ru (F2.bind.imp fun dz cs3 m3 G3 H3 x3 W3 F3 z rz => ?_)
  obtain ⟨k, rfl, F4⟩ := bl_read W3 (.inl rz) F3
  refine ⟨k, rfl, ?_⟩
  cases k with
  | true =>
    refine iteT ⟨ρ, cs3, m3, G3, W3, ((E.ext x1).ext x2).ext x3, F4.bind.imp fun dw cs4 m4 G4 H4 x4 W4 F5 w' rw' => ?_⟩
    exact o' m4 G4 H4 cs4 dy dw u w' Q W4 ((ru.ext x3).ext x4) rw' F5
  | false => exact iteF (Post.pure W3 F4 _ (.bl false))
theorem se_chain {op op' : CmpOp} {r r' : PySem.W.Frag → R2} {gD gD' : D → D → M D} (ho : ∀ X, Good S T X → OpR X (compareOp op) (r X.K)) (hd : ∀ K, OpD K (r K) gD) (ho' : ∀ X, Good S T X → OpR X (compareOp op') (r' X.K)) (hd' : ∀ K, OpD K (r' K) gD')
    (ha : SO S T a fa) (hb : SO S T b fb) (hc : SO S T c fc) (hm : lastMarks [op, op'] [b, c] = false := by with_unfolding_all rfl) : SE S T (.Compare a [op, op'] [b, c] pos) (eChain gD gD' fa fb fc) :=
  fun X g => (pe_chain (ho X g) (ho' X g) (ha X g) (hb X g) (hc X g) hm).imp fun σ H Q h => chain_read (hd X.K) (hd' X.K) h
theorem st_chain {op op' : CmpOp} {r r' : PySem.W.Frag → R2} {gD gD' : D → D → M D} (ho : ∀ X, Good S T X → OpR X (compareOp op) (r X.K)) (hd : ∀ K, OpD K (r K) gD) (ho' : ∀ X, Good S T X → OpR X (compareOp op') (r' X.K)) (hd' : ∀ K, OpD K (r' K) gD')
    (ha : SO S T a fa) (hb : SO S T b fb) (hc : SO S T c fc) (hm : lastMarks [op, op'] [b, c] = false := by with_unfolding_all rfl) : ST S T (.Compare a [op, op'] [b, c] pos) (tVal (eChain gD gD' fa fb fc)) :=
  fun X g => (pt_chain (ho X g) (ho' X g) (ha X g) (hb X g) (hc X g) hm).imp fun σ H Q h => chain_read (hd X.K) (hd' X.K) (val_read h)

/-! ### arguments -/
theorem sa_nil : SA S T [] aNil := ⟨fun X g => pa_nil.imp fun σ H Q ⟨ρ, cs, m, G, W, E, F⟩ => Post.pure W F _ .nil, rfl, fun ρ cs ds cs' h => by cases h; rfl⟩
theorem sa_cons (h : SE S T e f) (r : SA S T es fs) (hn : noStar e = true := by rfl) : SA S T (e :: es) (aCons f fs) := ⟨fun X g => (pa_cons (h X g) (r.run X g) (star_cons hn es X.env)).imp fun σ H Q ⟨ρ, cs, m, G, W, E, F⟩ =>
  ⟨ρ, cs, m, G, W, E, F.bind.imp fun d cs1 m1 G1 H1 x1 W1 F1 v rv => ⟨ρ, cs1, m1, G1, W1, E.ext x1, F1.bind.imp fun ds cs2 m2 G2 H2 x2 W2 F2 vs rvs => Post.pure W2 F2 _ (.cons (Rel.mono x2.pre x2.frz rv) rvs)⟩⟩,
  by rw [List.all_cons, hn, r.ns]; rfl, fun ρ cs ds cs' h => by
    unfold aCons at h
    rw [M.bind_eq] at h
    cases e1 : f ρ cs with
    | ok d cs1 =>
      rw [e1] at h
      dsimp only at h
      rw [M.bind_eq] at h
      cases e2 : fs ρ cs1 with
      | ok ds2 cs2 =>
        rw [e2] at h
        cases h
        rw [List.length_cons, List.length_cons, r.len _ _ _ _ e2]
      | exc _ _ => rw [e2] at h; cases h
      | bad => rw [e2] at h; cases h
    | exc _ _ => rw [e1] at h; cases h
    | bad => rw [e1] at h; cases h⟩
theorem sb_nil : SB S T [] aNil := ⟨fun X g => pa_nil.imp fun σ H Q ⟨ρ, cs, m, G, W, E, F⟩ => Post.pure W F _ .nil, rfl⟩
theorem sb_cons (h : SO S T e f) (r : SB S T es fs) (hn : noStar e = true := by rfl) : SB S T (e :: es) (aCons f fs) := ⟨fun X g => (pa_cons (h X g) (r.run X g) (star_cons hn es X.env)).imp fun σ H Q ⟨ρ, cs, m, G, W, E, F⟩ =>
  ⟨ρ, cs, m, G, W, E, F.bind.imp fun d cs1 m1 G1 H1 x1 W1 F1 v rv => ⟨ρ, cs1, m1, G1, W1, E.ext x1, F1.bind.imp fun ds cs2 m2 G2 H2 x2 W2 F2 vs rvs => Post.pure W2 F2 _ (.cons (rv.ext x2) rvs)⟩⟩,
  by rw [List.all_cons, hn, r.ns]; rfl⟩

/-! ### calls -/
theorem se_call (i : Nat) {x : Str} {cf : List D → M D} (h : SA S T (e :: es) fs) (hf : T.fn[i]? = some (x, cf) := by rfl) (hg : glB S x = true := by decide +kernel) : SE S T (.Call (.Name x p) (e :: es) [] pos) (eCall cf fs) := fun X g => by
  obtain ⟨k, f, fd, ps, F, hr, hm, hk, hb, hlen⟩ := (g.fn i x cf hf).ex
  obtain ⟨q1, q2, q3⟩ := glG g hg
  have hn := h.ns
  rw [List.all_cons, Bool.and_eq_true] at hn
  refine (pe_call (E := E0) F hr q1 hm hk hb .nil pass0 (h.run X g) q2 (star_cons hn.1 es X.env) (star_any hn.2 pos X.env)).imp fun σ H Q ⟨ρ, cs, m, G, W, E, F⟩ => ?_
  refine ⟨ρ, cs, m, G, W, E, F.bind.imp fun ds cs1 m1 G1 H1 x1 W1 F1 vs rvs => ?_⟩
  show prom X.K ps.length cf (vs ++ []) H1 Q E0
  rw [List.append_nil]
  refine ⟨cs1, m1, G1, ds, W1, rvs, ?_, F1⟩
  cases e : cf ds cs1 with
  | ok r cs' => rw [← rvs.length]; exact hlen _ _ _ _ e
  | exc _ _ => rw [e] at F1; exact F1.elim
  | bad => rw [e] at F1; exact F1.elim
def CaD (K : PySem.W.Frag) (r : List V → Hp → VK → Prop) (gD : List D → M D) : Prop := ∀ (m : List Addr) (G H : Hp) (cs : Cells) (ds : List D) (vs : List V) (Q : VK), Wf K m G H cs → RelsB K m G H ds vs →
  Post K m G H (gD ds cs) (fun d _ m' G' H' => ∀ v, Rel K m' G' d v → Q v H') → r vs H Q
theorem call_read {K : PySem.W.Frag} {r : List V → Hp → VK → Prop} {gD : List D → M D} (o : CaD K r gD) {σ : St} {H : Hp} {Q : VK} (h : tE K (eCall gD fs) σ H Q) : tCB r (tB K fs) σ H Q := by
  obtain ⟨ρ, cs, m, G, W, E, F⟩ := h
  exact ⟨ρ, cs, m, G, W, E, F.bind.imp fun ds cs1 m1 G1 H1 x1 W1 F1 vs rvs => o m1 G1 H1 cs1 ds vs Q W1 rvs F1⟩
theorem se_callB {x : Str} {id : String} {r : PySem.W.Frag → List V → Hp → VK → Prop} {gD : List D → M D} (hc : ∀ X, Good S T X → CallR X (.builtin id) (r X.K)) (hd : ∀ K, CaD K (r K) gD) (hx : x ∈ bltNames) (hv : bootBuiltins x = some (.builtin id))
    (h : SB S T (e :: es) fs) (hg : glB S x = true) : SE S T (.Call (.Name x p) (e :: es) [] pos) (eCall gD fs) := fun X g => by
  obtain ⟨q1, q2, q3⟩ := glG g hg
  have hn := h.ns
  rw [List.all_cons, Bool.and_eq_true] at hn
  exact (pe_callB (hc X g) q1 (g.blt x hx) hv (h.run X g) q3 q2 (star_cons hn.1 es X.env) (star_any hn.2 pos X.env)).imp fun σ H Q h => call_read (hd X.K) h
theorem se_callTy {x : Str} {ty : String} {r : PySem.W.Frag → List V → Hp → VK → Prop} {gD : List D → M D} (hc : ∀ X, Good S T X → CallR X (.type ty) (r X.K)) (hd : ∀ K, CaD K (r K) gD) (hx : x ∈ bltNames) (hv : bootBuiltins x = some (.type ty))
    (h : SB S T (e :: es) fs) (hg : glB S x = true) : SE S T (.Call (.Name x p) (e :: es) [] pos) (eCall gD fs) := fun X g => by
  obtain ⟨q1, q2, q3⟩ := glG g hg
  have hn := h.ns
  rw [List.all_cons, Bool.and_eq_true] at hn
  exact (pe_callTy (hc X g) q1 (g.blt x hx) hv (h.run X g) q3 q2 (star_cons hn.1 es X.env) (star_any hn.2 pos X.env)).imp fun σ H Q h => call_read (hd X.K) h

end
end RP
end

section
set_option Elab.async false
set_option linter.all false
set_option maxRecDepth 100000
set_option autoImplicit false
/-! RpS4: the operators and built-in functions by values. -/
namespace RP
open PySem PySem.Spec PyProof.Rows L2

/-! ### data for == -/
mutual
def D.toPy : D → PyData
  | .non => .none
  | .bl b => .bool b
  | .int i => .int i
  | .str s => .str s
  | .tup xs => .tuple (D.toPyL xs)
  | .lst xs => .list (D.toPyL xs)
  | .dct _ _ => .none
  | .obj _ => .none
  | .scr _ => .none
def D.toPyL : List D → List PyData
  | [] => []
  | x :: xs => D.toPy x :: D.toPyL xs
end
theorem depL_le {xs : List D} : ∀ {n : Nat}, D.depL xs ≤ n → ∀ x ∈ xs, x.dep ≤ n := by
  induction xs with
  | nil => intro n _ x hx; cases hx
  | cons y ys ih =>
    intro n h x hx
    unfold D.depL at h
    rcases List.mem_cons.mp hx with rfl | hx
    · exact Nat.le_trans (Nat.le_max_left _ _) h
    · exact ih (Nat.le_trans (Nat.le_max_right _ _) h) x hx
section
variable {K : PySem.W.Frag} {m : List Addr} {G H : Hp}
mutual
theorem Rel.dp (sub : Same G H) : ∀ {d : D} {v : V}, Rel K m G d v → d.dep ≤ 64 → Dp K H v d.toPy
  | _, _, .non, _ => .non
  | _, _, .bl b, _ => .bl b
  | _, _, .int i, _ => .int i
  | _, _, .str (s := s) _, _ => .str s
  | _, _, .tup h r, hd => .tup (Same.seqT sub h) (Rels.dp sub r (by unfold D.dep at hd; omega))
  | _, _, .lst h r, hd => .lst (SqL.of (sub _ _ h)) (Rels.dp sub r (by unfold D.dep at hd; omega))
  | _, _, .scr _ _, hd => absurd hd (by unfold D.dep; decide)
  | _, _, .obj _, hd => absurd hd (by unfold D.dep; decide)
  | _, _, .dct _ _ _, hd => absurd hd (by unfold D.dep; decide)
theorem Rels.dp (sub : Same G H) : ∀ {ds : List D} {vs : List V}, Rels K m G ds vs → D.depL ds ≤ 64 → DpAll K H vs (D.toPyL ds)
  | _, _, .nil, _ => .nil
  | _, _, .cons h r, hd => .cons (Rel.dp sub h (by unfold D.depL at hd; omega)) (Rels.dp sub r (by unfold D.depL at hd; omega))
end
mutual
theorem Rel.lay : ∀ {d : D} {v : V}, Rel K m G d v → d.toPy.canLay0 = true
  | _, _, .non => by simp [D.toPy, PyData.canLay0]
  | _, _, .bl b => by simp [D.toPy, PyData.canLay0]
  | _, _, .int i => by simp [D.toPy, PyData.canLay0]
  | _, _, .str h => by simpa [D.toPy, PyData.canLay0] using h.1
  | _, _, .tup h r => by simpa [D.toPy, PyData.canLay0] using Rels.lay r
  | _, _, .lst h r => by simpa [D.toPy, PyData.canLay0] using Rels.lay r
  | _, _, .scr _ _ => by simp [D.toPy, PyData.canLay0]
  | _, _, .obj _ => by simp [D.toPy, PyData.canLay0]
  | _, _, .dct _ _ _ => by simp [D.toPy, PyData.canLay0]
theorem Rels.lay : ∀ {ds : List D} {vs : List V}, Rels K m G ds vs → PyData.canLayAll0 (D.toPyL ds) = true
  | _, _, .nil => by simp [D.toPyL, PyData.canLayAll0]
  | _, _, .cons h r => by simp [D.toPyL, PyData.canLayAll0, Rel.lay h, Rels.lay r]
end
end
mutual
theorem depth_le : ∀ d : D, d.toPy.depth ≤ d.dep
  | .non => by simp [D.toPy, PyData.depth, D.dep]
  | .bl _ => by simp [D.toPy, PyData.depth, D.dep]
  | .int _ => by simp [D.toPy, PyData.depth, D.dep]
  | .str _ => by simp [D.toPy, PyData.depth, D.dep]
  | .tup xs => by simpa [D.toPy, PyData.depth, D.dep] using depthL_le xs
  | .lst xs => by simpa [D.toPy, PyData.depth, D.dep] using depthL_le xs
  | .dct _ _ => by simp [D.toPy, PyData.depth, D.dep]
  | .obj _ => by simp [D.toPy, PyData.depth, D.dep]
  | .scr _ => by simp [D.toPy, PyData.depth, D.dep]
theorem depthL_le : ∀ xs : List D, PyData.depthAll (D.toPyL xs) ≤ D.depL xs
  | [] => by simp [D.toPyL, PyData.depthAll, D.depL]
  | x :: xs => by
    have h1 := depth_le x
    have h2 := depthL_le xs
    simp only [D.toPyL, PyData.depthAll, D.depL]
    omega
end
mutual
theorem eqv_py : ∀ (d e : D), d.dep ≤ 64 → e.dep ≤ 64 → PyData.eqv d.toPy e.toPy = D.eqv d e
  | .dct _ _, _, h, _ => absurd h (by unfold D.dep; decide)
  | .obj _, _, h, _ => absurd h (by unfold D.dep; decide)
  | .scr _, _, h, _ => absurd h (by unfold D.dep; decide)
  | .non, e, _, h => by cases e <;> first | (simp [D.toPy, PyData.eqv, D.eqv]; done) | exact absurd h (by unfold D.dep; decide)
  | .bl a, e, _, h => by cases e <;> first | (simp [D.toPy, PyData.eqv, D.eqv]; done) | exact absurd h (by unfold D.dep; decide)
  | .int i, e, _, h => by cases e <;> first | (simp [D.toPy, PyData.eqv, D.eqv]; done) | exact absurd h (by unfold D.dep; decide)
  | .str x, e, _, h => by cases e <;> first | (simp [D.toPy, PyData.eqv, D.eqv]; done) | exact absurd h (by unfold D.dep; decide)
  | .tup xs, e, h1, h => by
    cases e <;> first
      | (simp [D.toPy, PyData.eqv, D.eqv]; done)
      | (simp only [D.toPy, PyData.eqv, D.eqv]; exact eqvL_py xs _ (by unfold D.dep at h1; omega) (by unfold D.dep at h; omega))
      | exact absurd h (by unfold D.dep; decide)
  | .lst xs, e, h1, h => by
    cases e <;> first
      | (simp [D.toPy, PyData.eqv, D.eqv]; done)
      | (simp only [D.toPy, PyData.eqv, D.eqv]; exact eqvL_py xs _ (by unfold D.dep at h1; omega) (by unfold D.dep at h; omega))
      | exact absurd h (by unfold D.dep; decide)
theorem eqvL_py : ∀ (xs ys : List D), D.depL xs ≤ 64 → D.depL ys ≤ 64 → PyData.eqvAll (D.toPyL xs) (D.toPyL ys) = D.eqvL xs ys
  | [], [], _, _ => by simp [D.toPyL, PyData.eqvAll, D.eqvL]
  | [], _ :: _, _, _ => by simp [D.toPyL, PyData.eqvAll, D.eqvL]
  | _ :: _, [], _, _ => by simp [D.toPyL, PyData.eqvAll, D.eqvL]
  | x :: xs, y :: ys, h1, h2 => by
    unfold D.depL at h1 h2
    simp only [D.toPyL, PyData.eqvAll, D.eqvL]
    rw [eqv_py x y (by omega) (by omega), eqvL_py xs ys (by omega) (by omega)]
end
section
variable {K : PySem.W.Frag} {m : List Addr} {G H : Hp} {cs : Cells}
theorem RelB.dp (W : Wf K m G H cs) {d : D} {v : V} (r : RelB K m G H d v) (h : d.dep ≤ 64) : Dp K H v d.toPy ∧ SeqAt.shaped d.toPy = true := by
  have k : d.toPy.canLay0 = true → SeqAt.shaped d.toPy = true := fun h1 => by
    unfold SeqAt.shaped
    rw [h1, Bool.true_and, decide_eq_true_eq]
    exact Nat.le_trans (depth_le d) h
  rcases r with r | ⟨a, vs, ds, rfl, rfl, h1, _, _, r⟩
  · exact ⟨Rel.dp W.sub r h, k (Rel.lay r)⟩
  · refine ⟨.lst (SqL.of h1) (Rels.dp W.sub r (by unfold D.dep at h; omega)), k ?_⟩
    simpa [D.toPy, PyData.canLay0] using Rels.lay r
end
theorem opd_eq (K : PySem.W.Frag) : OpD K (rEqD K) eqD := fun m G H cs dx dy x y Q W rx ry F => by
  obtain ⟨h, F⟩ := F.need
  rw [Bool.and_eq_true, decide_eq_true_eq, decide_eq_true_eq] at h
  obtain ⟨a1, a2⟩ := rx.dp W h.1
  obtain ⟨b1, b2⟩ := ry.dp W h.2
  refine ⟨_, _, a1, b1, a2, b2, ?_⟩
  rw [eqv_py dx dy h.1 h.2]
  exact Post.pure W F _ (.bl _)
theorem opd_ne (K : PySem.W.Frag) : OpD K (rNeD K) neD := fun m G H cs dx dy x y Q W rx ry F => by
  obtain ⟨h, F⟩ := F.need
  rw [Bool.and_eq_true, decide_eq_true_eq, decide_eq_true_eq] at h
  obtain ⟨a1, a2⟩ := rx.dp W h.1
  obtain ⟨b1, b2⟩ := ry.dp W h.2
  refine ⟨_, _, a1, b1, a2, b2, ?_⟩
  rw [eqv_py dx dy h.1 h.2]
  exact Post.pure W F _ (.bl _)
section
variable {S : SCtx} {T : Tab} {e a b c : Expr} {es : List Expr} {pos p : Pos} {f fa fb fc : EF} {fs : AF} {t u : TF}
theorem units64 {X : Cx} (g : Good S T X) : X.A.units + 64 < cLine := Nat.lt_of_le_of_lt (by omega) g.hu
theorem units65 {X : Cx} (g : Good S T X) : X.A.units + 65 < cLine := Nat.lt_of_le_of_lt (by omega) g.hu
theorem units0 {X : Cx} (g : Good S T X) : X.A.units < cLine := Nat.lt_of_le_of_lt (by omega) g.hu
theorem se_eq (ha : SO S T a fa) (hb : SO S T b fb) : SE S T (.Compare a [.Eq] [b] pos) (eOp2 eqD fa fb) := se_cmp (fun X g => op_eqD (units64 g)) opd_eq ha hb (nomark b)
theorem st_eq (ha : SO S T a fa) (hb : SO S T b fb) : ST S T (.Compare a [.Eq] [b] pos) (tVal (eOp2 eqD fa fb)) := st_cmp (fun X g => op_eqD (units64 g)) opd_eq ha hb (nomark b)
theorem se_ne (ha : SO S T a fa) (hb : SO S T b fb) : SE S T (.Compare a [.NotEq] [b] pos) (eOp2 neD fa fb) := se_cmp (fun X g => op_neD (units64 g)) opd_ne ha hb (nomark b)
theorem st_ne (ha : SO S T a fa) (hb : SO S T b fb) : ST S T (.Compare a [.NotEq] [b] pos) (tVal (eOp2 neD fa fb)) := st_cmp (fun X g => op_neD (units64 g)) opd_ne ha hb (nomark b)

/-! ### order -/
def rBl (g : Bool → Bool → V) : R2 := fun x y H Q => ∃ i j, x = .bl i ∧ y = .bl j ∧ Q (g i j) H
theorem op_lt_bl {X : Cx} : OpR X (compareOp .Lt) (rBl fun i j => .bl (decide (b2i i < b2i j))) := by
  intro pins s σ H x y v u Q I rx ry h
  obtain ⟨i, j, rfl, rfl, q⟩ := h
  cases rx
  cases ry
  exact PyProof.Rows.lt_bool (fin_bl I q rfl)
def rOrd (p : Int → Int → Bool) (q : Str → Str → Bool) : R2 := fun x y H Q => rI0 (fun i j => .bl (p i j)) x y H Q ∨ (fun x y H Q => ∃ i j, x = .str i ∧ y = .str j ∧ Q (.bl (q i j)) H) x y H Q
theorem opd_lt (K : PySem.W.Frag) : OpD K (fun x y H Q => rBl (fun i j => .bl (decide (b2i i < b2i j))) x y H Q ∨ rOrd (fun i j => decide (i < j)) (fun i j => decide (i.cps.toList < j.cps.toList)) x y H Q) ltD := fun m G H cs dx dy x y Q W rx ry F => by
  unfold ltD at F
  split at F
  · exact .inr (.inl ⟨_, _, rx.int, ry.int, Post.pure W F _ (.bl _)⟩)
  · exact .inl ⟨_, _, rx.bl, ry.bl, Post.pure W F _ (.bl _)⟩
  · exact .inr (.inr ⟨_, _, rx.str.1, ry.str.1, Post.pure W F _ (.bl _)⟩)
  · exact F.elim
theorem opd_le (K : PySem.W.Frag) : OpD K (rOrd (fun i j => decide (i ≤ j)) (fun i j => !decide (j.cps.toList < i.cps.toList))) leD := fun m G H cs dx dy x y Q W rx ry F => by
  unfold leD at F
  split at F
  · exact .inl ⟨_, _, rx.int, ry.int, Post.pure W F _ (.bl _)⟩
  · exact .inr ⟨_, _, rx.str.1, ry.str.1, Post.pure W F _ (.bl _)⟩
  · exact F.elim
theorem opd_gt (K : PySem.W.Frag) : OpD K (rOrd (fun i j => decide (j < i)) (fun i j => decide (j.cps.toList < i.cps.toList))) gtD := fun m G H cs dx dy x y Q W rx ry F => by
  unfold gtD at F
  split at F
  · exact .inl ⟨_, _, rx.int, ry.int, Post.pure W F _ (.bl _)⟩
  · exact .inr ⟨_, _, rx.str.1, ry.str.1, Post.pure W F _ (.bl _)⟩
  · exact F.elim
theorem opd_ge (K : PySem.W.Frag) : OpD K (rOrd (fun i j => decide (j ≤ i)) (fun i j => !decide (i.cps.toList < j.cps.toList))) geD := fun m G H cs dx dy x y Q W rx ry F => by
  unfold geD at F
  split at F
  · exact .inl ⟨_, _, rx.int, ry.int, Post.pure W F _ (.bl _)⟩
  · exact .inr ⟨_, _, rx.str.1, ry.str.1, Post.pure W F _ (.bl _)⟩
  · exact F.elim
theorem se_lt (ha : SO S T a fa) (hb : SO S T b fb) : SE S T (.Compare a [.Lt] [b] pos) (eOp2 ltD fa fb) := se_cmp (fun X g => op_lt_bl.or (op_lt.or op_lt_str)) opd_lt ha hb (nomark b)
theorem st_lt (ha : SO S T a fa) (hb : SO S T b fb) : ST S T (.Compare a [.Lt] [b] pos) (tVal (eOp2 ltD fa fb)) := st_cmp (fun X g => op_lt_bl.or (op_lt.or op_lt_str)) opd_lt ha hb (nomark b)
theorem se_le (ha : SO S T a fa) (hb : SO S T b fb) : SE S T (.Compare a [.LtE] [b] pos) (eOp2 leD fa fb) := se_cmp (fun X g => op_le.or op_le_str) opd_le ha hb (nomark b)
theorem st_le (ha : SO S T a fa) (hb : SO S T b fb) : ST S T (.Compare a [.LtE] [b] pos) (tVal (eOp2 leD fa fb)) := st_cmp (fun X g => op_le.or op_le_str) opd_le ha hb (nomark b)
theorem se_gt (ha : SO S T a fa) (hb : SO S T b fb) : SE S T (.Compare a [.Gt] [b] pos) (eOp2 gtD fa fb) := se_cmp (fun X g => op_gt.or op_gt_str) opd_gt ha hb (nomark b)
theorem st_gt (ha : SO S T a fa) (hb : SO S T b fb) : ST S T (.Compare a [.Gt] [b] pos) (tVal (eOp2 gtD fa fb)) := st_cmp (fun X g => op_gt.or op_gt_str) opd_gt ha hb (nomark b)
theorem se_ge (ha : SO S T a fa) (hb : SO S T b fb) : SE S T (.Compare a [.GtE] [b] pos) (eOp2 geD fa fb) := se_cmp (fun X g => op_ge.or op_ge_str) opd_ge ha hb (nomark b)
theorem st_ge (ha : SO S T a fa) (hb : SO S T b fb) : ST S T (.Compare a [.GtE] [b] pos) (tVal (eOp2 geD fa fb)) := st_cmp (fun X g => op_ge.or op_ge_str) opd_ge ha hb (nomark b)
/-- low <= x <= high, low <= x < high -/
theorem se_lele (ha : SO S T a fa) (hb : SO S T b fb) (hc : SO S T c fc) (hm : lastMarks [.LtE, .LtE] [b, c] = false := by with_unfolding_all rfl) : SE S T (.Compare a [.LtE, .LtE] [b, c] pos) (eChain leD leD fa fb fc) :=
  se_chain (fun X g => op_le.or op_le_str) opd_le (fun X g => op_le.or op_le_str) opd_le ha hb hc hm
theorem st_lele (ha : SO S T a fa) (hb : SO S T b fb) (hc : SO S T c fc) (hm : lastMarks [.LtE, .LtE] [b, c] = false := by with_unfolding_all rfl) : ST S T (.Compare a [.LtE, .LtE] [b, c] pos) (tVal (eChain leD leD fa fb fc)) :=
  st_chain (fun X g => op_le.or op_le_str) opd_le (fun X g => op_le.or op_le_str) opd_le ha hb hc hm
theorem se_lelt (ha : SO S T a fa) (hb : SO S T b fb) (hc : SO S T c fc) (hm : lastMarks [.LtE, .Lt] [b, c] = false := by with_unfolding_all rfl) : SE S T (.Compare a [.LtE, .Lt] [b, c] pos) (eChain leD ltD fa fb fc) :=
  se_chain (fun X g => op_le.or op_le_str) opd_le (fun X g => op_lt_bl.or (op_lt.or op_lt_str)) opd_lt ha hb hc hm
theorem st_lelt (ha : SO S T a fa) (hb : SO S T b fb) (hc : SO S T c fc) (hm : lastMarks [.LtE, .Lt] [b, c] = false := by with_unfolding_all rfl) : ST S T (.Compare a [.LtE, .Lt] [b, c] pos) (tVal (eChain leD ltD fa fb fc)) :=
  st_chain (fun X g => op_le.or op_le_str) opd_le (fun X g => op_lt_bl.or (op_lt.or op_lt_str)) opd_lt ha hb hc hm

/-! ### is -/
theorem non_iff {K : PySem.W.Frag} {m : List Addr} {G H : Hp} {d : D} {v : V} (r : RelB K m G H d v) : (v = .non) ↔ d = .non := by
  constructor
  · rintro rfl
    rcases r with r | ⟨_, _, _, _, e, _⟩
    · cases r; rfl
    · cases e
  · rintro rfl; exact r.non
theorem opd_isN (K : PySem.W.Frag) : OpD K (fun x y H Q => y = .non ∧ Q (.bl (decide (x = .non))) H) (fun x y => match y with | .non => isNoneD x | _ => M.bad) := fun m G H cs dx dy x y Q W rx ry F => by
  cases dy with
  | non =>
    refine ⟨ry.non, ?_⟩
    have k := non_iff rx
    cases dx with
    | non => rw [decide_eq_true (k.mpr rfl)]; exact Post.pure W F _ (.bl _)
    | _ => rw [decide_eq_false (fun z => nomatch (k.mp z))]; exact Post.pure W F _ (.bl _)
  | _ => exact F.elim
theorem opd_notN (K : PySem.W.Frag) : OpD K (fun x y H Q => y = .non ∧ Q (.bl (!decide (x = .non))) H) (fun x y => match y with | .non => isNotNoneD x | _ => M.bad) := fun m G H cs dx dy x y Q W rx ry F => by
  cases dy with
  | non =>
    refine ⟨ry.non, ?_⟩
    have k := non_iff rx
    cases dx with
    | non => rw [decide_eq_true (k.mpr rfl)]; exact Post.pure W F _ (.bl _)
    | _ => rw [decide_eq_false (fun z => nomatch (k.mp z))]; exact Post.pure W F _ (.bl _)
  | _ => exact F.elim
theorem isN_eq {fa : EF} {g : D → M D} : eOp2 (fun x y => match y with | .non => g x | _ => M.bad) fa (eLit .non) = eOp1 g fa := by
  funext ρ cs
  unfold eOp2 eOp1 eLit
  rw [M.bind_eq, M.bind_eq]
  cases fa ρ cs <;> rfl
theorem se_isN {k : Nat} {q : Pos} (ha : SO S T a fa) : SE S T (.Compare a [.Is] [.Constant .none k q] pos) (eOp1 isNoneD fa) := by rw [← isN_eq]; exact se_cmp (r := fun _ => _) (fun X g => op_isN) opd_isN ha se_non.so (nomark _)
theorem st_isN {k : Nat} {q : Pos} (ha : SO S T a fa) : ST S T (.Compare a [.Is] [.Constant .none k q] pos) (tVal (eOp1 isNoneD fa)) := by rw [← isN_eq]; exact st_cmp (r := fun _ => _) (fun X g => op_isN) opd_isN ha se_non.so (nomark _)
theorem se_notN {k : Nat} {q : Pos} (ha : SO S T a fa) : SE S T (.Compare a [.IsNot] [.Constant .none k q] pos) (eOp1 isNotNoneD fa) := by rw [← isN_eq]; exact se_cmp (r := fun _ => _) (fun X g => op_notN) opd_notN ha se_non.so (nomark _)
theorem st_notN {k : Nat} {q : Pos} (ha : SO S T a fa) : ST S T (.Compare a [.IsNot] [.Constant .none k q] pos) (tVal (eOp1 isNotNoneD fa)) := by rw [← isN_eq]; exact st_cmp (r := fun _ => _) (fun X g => op_notN) opd_notN ha se_non.so (nomark _)
/-- x is True, x is False, whatever x is -/
def isTF (x y : D) : M D := match y with
  | .bl b => match x with
    | .bl a => pure (.bl (decide (a = b)))
    | _ => pure (.bl false)
  | _ => M.bad
def isNotTF (x y : D) : M D := match y with
  | .bl b => match x with
    | .bl a => pure (.bl (!decide (a = b)))
    | _ => pure (.bl true)
  | _ => M.bad
end
end RP
end

section
set_option Elab.async false
set_option linter.all false
set_option maxRecDepth 100000
set_option autoImplicit false
/-! RpS5: in, arithmetic, lists and tuples, subscripts, slices, built-in functions. -/
namespace RP
open PySem PySem.Spec PyProof.Rows L2

/-! ### is of truths -/
theorem opd_isBl (K : PySem.W.Frag) : OpD K rIsB isBlD := fun m G H cs dx dy x y Q W rx ry F => by
  unfold isBlD at F
  split at F
  · exact ⟨_, _, rx.bl, ry.bl, Post.pure W F _ (.bl _)⟩
  · exact F.elim
theorem opd_notBl (K : PySem.W.Frag) : OpD K rNotB isNotBlD := fun m G H cs dx dy x y Q W rx ry F => by
  unfold isNotBlD at F
  split at F
  · exact ⟨_, _, rx.bl, ry.bl, Post.pure W F _ (.bl _)⟩
  · exact F.elim
/-! ### in -/
theorem toPyL_map (xs : List D) : D.toPyL xs = xs.map D.toPy := by
  induction xs with
  | nil => rfl
  | cons x xs ih => rw [List.map_cons, ← ih]; rfl
theorem any_py {d : D} (hd : d.dep ≤ 64) : ∀ {ys : List D}, D.depL ys ≤ 63 → ((D.toPyL ys).any fun z => PyData.eqv z d.toPy) = memD d ys
  | [], _ => rfl
  | y :: ys, h => by
    unfold D.depL at h
    unfold memD
    rw [D.toPyL, List.any_cons, List.any_cons, eqv_py y d (by omega) hd]
    have := any_py hd (ys := ys) (by omega)
    unfold memD at this
    rw [this]
theorem flat_rel {K : PySem.W.Frag} {m : List Addr} {G H : Hp} {d : D} {v : V} (r : RelB K m G H d v) (h : d.flat = true) : flatV v = true := by
  cases d with
  | non => rw [r.non]; rfl
  | bl b => rw [r.bl]; rfl
  | int i => rw [r.int]; rfl
  | str s => rw [r.str.1]; rfl
  | _ => cases h
theorem flat_eqV {K : PySem.W.Frag} {m : List Addr} {G H : Hp} {d e : D} {v u : V} (r : RelB K m G H d v) (r2 : RelB K m G H e u) (h : d.flat = true) (h2 : e.flat = true) : eqV v u = D.eqv d e := by
  cases d with
  | non => rw [r.non]; cases e with
    | non => rw [r2.non]; rfl
    | bl _ => rw [r2.bl]; rfl
    | int _ => rw [r2.int]; rfl
    | str _ => rw [r2.str.1]; rfl
    | _ => cases h2
  | bl b => rw [r.bl]; cases e with
    | non => rw [r2.non]; rfl
    | bl _ => rw [r2.bl]; rfl
    | int _ => rw [r2.int]; rfl
    | str _ => rw [r2.str.1]; rfl
    | _ => cases h2
  | int i => rw [r.int]; cases e with
    | non => rw [r2.non]; rfl
    | bl _ => rw [r2.bl]; rfl
    | int _ => rw [r2.int]; rfl
    | str _ => rw [r2.str.1]; rfl
    | _ => cases h2
  | str s => rw [r.str.1]; cases e with
    | non => rw [r2.non]; rfl
    | bl _ => rw [r2.bl]; rfl
    | int _ => rw [r2.int]; rfl
    | str _ => rw [r2.str.1]; rfl
    | _ => cases h2
  | _ => cases h
theorem flat_all {K : PySem.W.Frag} {m : List Addr} {G H : Hp} : ∀ {ds : List D} {vs : List V}, Rels K m G ds vs → ds.all D.flat = true → vs.all flatV = true
  | _, _, .nil, _ => rfl
  | _, _, .cons r rs, h => by
    rw [List.all_cons, Bool.and_eq_true] at h
    rw [List.all_cons, flat_rel (H := H) (.inl r) h.1, flat_all (H := H) rs h.2]
    rfl
theorem flat_mem {K : PySem.W.Frag} {m : List Addr} {G H : Hp} {x : D} {u : V} (rx : RelB K m G H x u) (hx : x.flat = true) : ∀ {ds : List D} {vs : List V}, Rels K m G ds vs → ds.all D.flat = true → inV u vs = memD x ds
  | _, _, .nil, _ => rfl
  | _, _, .cons r rs, h => by
    rw [List.all_cons, Bool.and_eq_true] at h
    have k := flat_mem rx hx rs h.2
    unfold inV memD at k ⊢
    rw [List.any_cons, List.any_cons, flat_eqV (.inl r) rx h.1 hx, k]
def rInAll (K : PySem.W.Frag) : R2 := fun x y H Q => rInD K x y H Q ∨ (rIn K false x y H Q ∨ (fun x y H Q => ∃ (c : Nat) (z : Str), x = .str ⟨#[c]⟩ ∧ y = .str z ∧ Q (.bl (decide (c ∈ z.cps.toList))) H) x y H Q)
def rNotInAll (K : PySem.W.Frag) : R2 := fun x y H Q => rNotInD K x y H Q ∨ (rIn K true x y H Q ∨ (fun x y H Q => ∃ (c : Nat) (z : Str), x = .str ⟨#[c]⟩ ∧ y = .str z ∧ Q (.bl (!decide (c ∈ z.cps.toList))) H) x y H Q)
theorem one_sign {x : Str} {c : Nat} (h : x.cps.toList = [c]) : x = ⟨#[c]⟩ := by
  obtain ⟨a⟩ := x
  have : a = #[c] := by
    apply Array.toList_inj.mp
    exact h
  rw [this]
theorem in_read {K : PySem.W.Frag} {m : List Addr} {G H : Hp} {cs : Cells} {dx dy : D} {x y : V} {g : Bool → D} {P : D → Cells → List Addr → Hp → Hp → Prop} (W : Wf K m G H cs) (rx : RelB K m G H dx x) (ry : RelB K m G H dy y)
    (F : Post K m G H ((inB dx dy >>= fun b => pure (g b)) cs) P) :
    (∃ d ds, Dp K H x d ∧ Dp K H y (.list ds) ∧ SeqAt.shaped d = true ∧ SeqAt.shaped (.list ds) = true ∧ P (g (ds.any fun z => PyData.eqv z d)) cs m G H) ∨
    (∃ p xs, y = .ref p ∧ (SqL K H p xs ∨ SqT K H p xs) ∧ flatV x = true ∧ xs.all flatV = true ∧ P (g (inV x xs)) cs m G H) ∨
    (∃ (c : Nat) (z : Str), x = .str ⟨#[c]⟩ ∧ y = .str z ∧ P (g (decide (c ∈ z.cps.toList))) cs m G H) := by
  have F0 := F.bind
  unfold inB at F0
  split at F0
  · rename_i ys
    obtain ⟨h, F1⟩ := F0.need
    rw [Bool.and_eq_true, decide_eq_true_eq, decide_eq_true_eq] at h
    have F2 := Post.pure W (Post.pure W F1)
    obtain ⟨a1, a2⟩ := rx.dp W h.1
    obtain ⟨b1, b2⟩ := ry.dp W (by show D.depL ys + 1 ≤ 64; omega)
    refine .inl ⟨_, D.toPyL ys, a1, b1, a2, b2, ?_⟩
    rw [any_py h.1 h.2]
    exact F2
  · rename_i ys
    obtain ⟨h, F1⟩ := F0.need
    rw [Bool.and_eq_true] at h
    have F2 := Post.pure W (Post.pure W F1)
    obtain ⟨a, vs, rfl, h1, h2, h3⟩ := ry.tup W
    refine .inr (.inl ⟨a, vs, rfl, .inr h1, flat_rel rx h.1, flat_all (H := H) h3 h.2, ?_⟩)
    rw [flat_mem rx h.1 h3 h.2]
    exact F2
  · rename_i s z
    unfold hasSign at F0
    cases hc : s.cps.toList with
    | nil => rw [hc] at F0; exact F0.elim
    | cons c r =>
      cases r with
      | nil =>
        rw [hc] at F0
        have F2 := Post.pure W (Post.pure W F0)
        exact .inr (.inr ⟨c, z, by rw [rx.str.1, one_sign hc], ry.str.1, F2⟩)
      | cons _ _ => rw [hc] at F0; exact F0.elim
  · exact F0.elim
theorem opd_in (K : PySem.W.Frag) : OpD K (rInAll K) inD := fun m G H cs dx dy x y Q W rx ry F => by
  rcases in_read (g := D.bl) W rx ry F with ⟨d, ds, a1, a2, a3, a4, q⟩ | ⟨p, xs, a1, a2, a3, a4, q⟩ | ⟨c, z, a1, a2, q⟩
  · exact .inl ⟨d, ds, a1, a2, a3, a4, q _ (.bl _)⟩
  · exact .inr (.inl ⟨p, xs, a1, a2, a3, a4, q _ (.bl _)⟩)
  · exact .inr (.inr ⟨c, z, a1, a2, q _ (.bl _)⟩)
theorem opd_notIn (K : PySem.W.Frag) : OpD K (rNotInAll K) notInD := fun m G H cs dx dy x y Q W rx ry F => by
  rcases in_read (g := fun b => D.bl (!b)) W rx ry F with ⟨d, ds, a1, a2, a3, a4, q⟩ | ⟨p, xs, a1, a2, a3, a4, q⟩ | ⟨c, z, a1, a2, q⟩
  · exact .inl ⟨d, ds, a1, a2, a3, a4, q _ (.bl _)⟩
  · exact .inr (.inl ⟨p, xs, a1, a2, a3, a4, q _ (.bl _)⟩)
  · exact .inr (.inr ⟨c, z, a1, a2, q _ (.bl _)⟩)
section
variable {S : SCtx} {T : Tab} {e a b c : Expr} {es : List Expr} {pos p : Pos} {f fa fb fc : EF} {fs : AF} {t u : TF}
theorem se_isB {v : Bool} {k : Nat} {q : Pos} (ha : SO S T a fa) : SE S T (.Compare a [.Is] [.Constant (.bool v) k q] pos) (eOp2 isBlD fa (eLit (.bl v))) := se_cmp (r := fun _ => _) (fun X g => op_isBl) opd_isBl ha se_bl.so (nomark _)
theorem st_isB {v : Bool} {k : Nat} {q : Pos} (ha : SO S T a fa) : ST S T (.Compare a [.Is] [.Constant (.bool v) k q] pos) (tVal (eOp2 isBlD fa (eLit (.bl v)))) := st_cmp (r := fun _ => _) (fun X g => op_isBl) opd_isBl ha se_bl.so (nomark _)
theorem se_notB {v : Bool} {k : Nat} {q : Pos} (ha : SO S T a fa) : SE S T (.Compare a [.IsNot] [.Constant (.bool v) k q] pos) (eOp2 isNotBlD fa (eLit (.bl v))) := se_cmp (r := fun _ => _) (fun X g => op_notBl) opd_notBl ha se_bl.so (nomark _)
theorem st_notB {v : Bool} {k : Nat} {q : Pos} (ha : SO S T a fa) : ST S T (.Compare a [.IsNot] [.Constant (.bool v) k q] pos) (tVal (eOp2 isNotBlD fa (eLit (.bl v)))) := st_cmp (r := fun _ => _) (fun X g => op_notBl) opd_notBl ha se_bl.so (nomark _)
theorem se_in (ha : SO S T a fa) (hb : SO S T b fb) (hm : behindInMarks .In b = false := by rfl) : SE S T (.Compare a [.In] [b] pos) (eOp2 inD fa fb) := se_cmp (fun X g => (op_inD (units65 g)).or (op_in_seq.or op_in_sign)) opd_in ha hb hm
theorem st_in (ha : SO S T a fa) (hb : SO S T b fb) (hm : behindInMarks .In b = false := by rfl) : ST S T (.Compare a [.In] [b] pos) (tVal (eOp2 inD fa fb)) := st_cmp (fun X g => (op_inD (units65 g)).or (op_in_seq.or op_in_sign)) opd_in ha hb hm
theorem se_notIn (ha : SO S T a fa) (hb : SO S T b fb) (hm : behindInMarks .NotIn b = false := by rfl) : SE S T (.Compare a [.NotIn] [b] pos) (eOp2 notInD fa fb) := se_cmp (fun X g => (op_notInD (units65 g)).or (op_notIn_seq.or op_notIn_sign)) opd_notIn ha hb hm
theorem st_notIn (ha : SO S T a fa) (hb : SO S T b fb) (hm : behindInMarks .NotIn b = false := by rfl) : ST S T (.Compare a [.NotIn] [b] pos) (tVal (eOp2 notInD fa fb)) := st_cmp (fun X g => (op_notInD (units65 g)).or (op_notIn_seq.or op_notIn_sign)) opd_notIn ha hb hm
end

/-! ### arithmetic -/
def rAddAll (K : PySem.W.Frag) : R2 := fun x y H Q => rI0 (fun i j => .int (i + j)) x y H Q ∨ ((fun x y H Q => ∃ i j, x = .str i ∧ y = .str j ∧ i.length + j.length ≤ sizeLine ∧ Q (.str (i ++ j)) H) x y H Q ∨ (rCatA K x y H Q ∨ rCat x y H Q))
theorem okS_app {a b : Str} (ha : okS a) (hb : okS b) (h : a.length + b.length ≤ sizeLine) : okS (a ++ b) := by
  refine ⟨?_, ?_⟩
  · have h1 := ha.1
    have h2 := hb.1
    unfold PyData.strOk at h1 h2 ⊢
    rw [Str.cps_append, Array.all_append, h1, h2]
    rfl
  · rw [Str.length_append]; exact h
theorem opd_add (K : PySem.W.Frag) : OpD K (rAddAll K) addD := fun m G H cs dx dy x y Q W rx ry F => by
  unfold addD at F
  split at F
  · exact .inl ⟨_, _, rx.int, ry.int, Post.pure W F _ (.int _)⟩
  · obtain ⟨h, F⟩ := F.fit
    rw [LIM_eq] at h
    exact .inr (.inl ⟨_, _, rx.str.1, ry.str.1, h, Post.pure W F _ (.str (okS_app rx.str.2 ry.str.2 h))⟩)
  · obtain ⟨h, F⟩ := F.fit
    rw [LIM_eq] at h
    obtain ⟨a, vs, rfl, h1, h1g, r1⟩ := rx.tup W
    obtain ⟨b, ws, rfl, h2, h2g, r2⟩ := ry.tup W
    refine .inr (.inr (.inl ⟨a, b, vs, ws, rfl, rfl, h1, h2, by rw [← r1.length, ← r2.length]; exact h, fun e => ?_, fun e e2 => ?_, fun e e2 p hp => ?_⟩))
    · subst e
      cases r1
      exact Post.pure W F _ (.tup h2g r2)
    · subst e2
      cases r2
      rw [List.append_nil] at F
      exact Post.pure W F _ (.tup h1g r1)
    · refine F m (upd G p (.tup (vs ++ ws))) _ (Ext.new hp W.sub) (W.new hp) _ (.tup (SqT.of upd_same) ?_)
      exact Rels.mono (Pre.refl m) (Same.fix (W.noG hp)) (r1.append r2)
  · obtain ⟨h, F⟩ := F.fit
    rw [LIM_eq] at h
    obtain ⟨a, vs, rfl, h1, r1⟩ := rx.lst W
    obtain ⟨b, ws, rfl, h2, r2⟩ := ry.lst W
    refine .inr (.inr (.inr ⟨a, b, vs, ws, rfl, rfl, h1, h2, by rw [← r1.length, ← r2.length]; exact h, fun p hp => ?_⟩))
    refine F m (upd G p (.lst (vs ++ ws))) _ (Ext.new hp W.sub) (W.new hp) _ (.lst upd_same ?_)
    exact Rels.mono (Pre.refl m) (Same.fix (W.noG hp)) (r1.append r2)
  · exact F.elim
theorem opd_sub (K : PySem.W.Frag) : OpD K (rI0 fun i j => .int (i - j)) subD := fun m G H cs dx dy x y Q W rx ry F => by
  unfold subD at F
  split at F
  · exact ⟨_, _, rx.int, ry.int, Post.pure W F _ (.int _)⟩
  · exact F.elim
theorem small64_of {i j : Int} (h : (small64 i || small64 j) = true) : CMul i j := by
  unfold small64 at h
  simp only [Bool.or_eq_true, Bool.and_eq_true, decide_eq_true_eq] at h
  exact h
theorem opd_fdiv (K : PySem.W.Frag) : OpD K (rI CDiv fun i j => .int (i / j)) fdivD := fun m G H cs dx dy x y Q W rx ry F => by
  unfold fdivD at F
  split at F
  · obtain ⟨h, F⟩ := F.need
    rw [Bool.and_eq_true, decide_eq_true_eq, decide_eq_true_eq] at h
    exact ⟨_, _, rx.int, ry.int, h, Post.pure W F _ (.int _)⟩
  · exact F.elim
theorem opd_mod (K : PySem.W.Frag) : OpD K (rI (fun _ j => 0 < j) fun i j => .int (i % j)) modD := fun m G H cs dx dy x y Q W rx ry F => by
  unfold modD at F
  split at F
  · obtain ⟨h, F⟩ := F.need
    rw [decide_eq_true_eq] at h
    exact ⟨_, _, rx.int, ry.int, h, Post.pure W F _ (.int _)⟩
  · exact F.elim
section
variable {S : SCtx} {T : Tab} {e a b c : Expr} {es : List Expr} {pos p : Pos} {f fa fb fc : EF} {fs : AF} {t u : TF}
theorem se_add (ha : SO S T a fa) (hb : SO S T b fb) : SE S T (.BinOp a .Add b pos) (eOp2 addD fa fb) := se_op2 (fun X g => op_add.or (op_add_str.or (op_catA.or op_cat))) opd_add ha hb
theorem se_sub (ha : SO S T a fa) (hb : SO S T b fb) : SE S T (.BinOp a .Sub b pos) (eOp2 subD fa fb) := se_op2 (r := fun _ => _) (fun X g => op_sub) opd_sub ha hb
theorem se_fdiv (ha : SO S T a fa) (hb : SO S T b fb) : SE S T (.BinOp a .FloorDiv b pos) (eOp2 fdivD fa fb) := se_op2 (r := fun _ => _) (fun X g => op_fdiv) opd_fdiv ha hb
theorem se_mod (ha : SO S T a fa) (hb : SO S T b fb) : SE S T (.BinOp a .Mod b pos) (eOp2 modD fa fb) := se_op2 (r := fun _ => _) (fun X g => op_mod) opd_mod ha hb
/-- list + list -/
theorem sfr_cat (ha : SO S T a fa) (hb : SO S T b fb) : SFr S T (.BinOp a .Add b pos) (catL fa fb) := fun X g => (pe_op op_cat (ha X g) (hb X g)).imp fun σ H Q ⟨ρ, cs, m, G, W, E, F⟩ => by
  refine ⟨ρ, cs, m, G, W, E, F.bind.imp fun dx cs1 m1 G1 H1 x1 W1 F1 v rv => ?_⟩
  refine ⟨ρ, cs1, m1, G1, W1, E.ext x1, F1.bind.imp fun dy cs2 m2 G2 H2 x2 W2 F2 w rw' => ?_⟩
  have rv2 := rv.ext x2
  cases dx with
  | lst xs =>
    cases dy with
    | lst ys =>
      obtain ⟨h, F3⟩ := Post.fit F2
      rw [LIM_eq] at h
      obtain ⟨l, vs, rfl, h1, r1⟩ := rv2.lst W2
      obtain ⟨l2, ws, rfl, h2, r2⟩ := rw'.lst W2
      refine ⟨l, l2, vs, ws, rfl, rfl, h1, h2, by rw [← r1.length, ← r2.length]; exact h, fun q hq => ?_⟩
      have hq0 : H q = none := by
        cases z : H q with
        | none => rfl
        | some o => exact absurd hq (x2.stay q (x1.stay q (by rw [z]; exact fun z => nomatch z)))
      exact F3 m2 G2 _ (Ext.own hq) (W2.own hq) q (vs ++ ws) hq0 upd_same (W2.noG hq) (W2.noM hq) (r1.append r2)
    | _ => exact F2.elim
  | _ => exact F2.elim
/-! ### displays -/
theorem se_tup {k : Nat} (h : SA S T es fs) (hz : es.length ≤ 1000 := by decide) : SE S T (.Tuple es k pos) (eTup fs) := fun X g => by
  refine ((pe_tup (h.run X g)) : PE X (.Tuple es k pos) _).imp fun σ H Q ⟨ρ, cs, m, G, W, E, F⟩ => ?_
  refine ⟨ρ, cs, m, G, W, E, F.bind.impE fun ds cs1 m1 G1 H1 eq x1 W1 F1 vs rvs => ⟨?_, fun p hp => ?_⟩⟩
  · rw [← rvs.length, h.len _ _ _ _ eq, sizeLine_eq]; omega
  · exact F1 m1 (upd G1 p (.tup vs)) _ (Ext.new hp W1.sub) (W1.new hp) _ (.tup (SqT.of upd_same) (Rels.mono (Pre.refl m1) (Same.fix (W1.noG hp)) rvs))
theorem none_back {m m1 : List Addr} {G G1 H H1 : Hp} {q : Addr} (x : Ext m G H m1 G1 H1) (hq : H1 q = none) : H q = none := by
  cases z : H q with
  | none => rfl
  | some o => exact absurd hq (x.stay q (by rw [z]; exact fun z => nomatch z))
theorem sfr_lst (h : SA S T es fs) (hz : es.length ≤ 1000 := by decide) : SFr S T (.List es pos) fs := fun X g => (pe_lst (h.run X g)).imp fun σ H Q ⟨ρ, cs, m, G, W, E, F⟩ => by
  refine ⟨ρ, cs, m, G, W, E, F.impA fun ds cs1 m1 G1 H1 eq x1 W1 F1 vs rvs => ⟨?_, fun p hp => ?_⟩⟩
  · rw [← rvs.length, h.len _ _ _ _ eq, sizeLine_eq]; omega
  · exact F1 m1 G1 _ (x1.trans (Ext.own hp)) (W1.own hp) p vs (none_back x1 hp) upd_same (W1.noG hp) (W1.noM hp) rvs
/-- a list that is shared -/
theorem Ext.cell {m : List Addr} {G H : Hp} {p : Addr} {o : HO} (hp : H p = none) : Ext m G H (m ++ [p]) G (upd H p o) where
  pre := fun n a h => by rw [List.getElem?_append_left (List.getElem?_eq_some_iff.mp h).1]; exact h
  frz := Same.refl G
  keep := fun a u h _ => by rw [upd_ne (ne_of_none h hp)]; exact h
  stay := (Ext.own (m := m) (G := G) hp).stay
  newG := fun _ _ h => h
  newM := fun a h n hm => by
    rcases List.mem_append.mp hm with z | z
    · exact n z
    · rw [List.mem_singleton] at z
      subst z
      exact h hp
theorem Wf.cellNew {K : PySem.W.Frag} {m : List Addr} {G H : Hp} {cs : Cells} {p : Addr} {ds : List D} {vs : List V} (W : Wf K m G H cs) (hp : H p = none) (r : Rels K m G ds vs) : Wf K (m ++ [p]) G (upd H p (.lst vs)) (cs ++ [ds]) where
  sub := (W.own hp).sub
  len := by rw [List.length_append, List.length_append, W.len]; rfl
  cell := fun n es a h1 h2 => by
    have px : Pre m (m ++ [p]) := (Ext.cell (G := G) (o := .lst vs) hp).pre
    by_cases hn : n < cs.length
    · rw [List.getElem?_append_left hn] at h1
      rw [List.getElem?_append_left (by rw [W.len]; exact hn)] at h2
      obtain ⟨ws, e, r'⟩ := W.cell n es a h1 h2
      exact ⟨ws, by rw [upd_ne (ne_of_none e hp)]; exact e, Rels.mono px (Same.refl G) r'⟩
    · rw [List.getElem?_append_right (by omega)] at h1
      rw [List.getElem?_append_right (by rw [W.len]; omega), W.len] at h2
      have h0 : n - cs.length = 0 := by
        have := (List.getElem?_eq_some_iff.mp h1).1
        rw [List.length_singleton] at this
        omega
      rw [h0] at h1 h2
      cases h1
      cases h2
      exact ⟨vs, upd_same, Rels.mono px (Same.refl G) r⟩
  mG := fun a h => by
    rcases List.mem_append.mp h with z | z
    · exact W.mG a z
    · rw [List.mem_singleton] at z
      subst z
      exact W.noG hp
  nd := List.nodup_append.mpr ⟨W.nd, List.nodup_cons.mpr ⟨List.not_mem_nil, List.nodup_nil⟩, fun a ha b hb e => by
    rw [List.mem_singleton] at hb
    subst hb
    subst e
    exact W.noM hp ha⟩
theorem se_new (h : SA S T es fs) (hz : es.length ≤ 1000 := by decide) : SE S T (.List es pos) (eNew fs) := fun X g => (pe_lst (h.run X g)).imp fun σ H Q ⟨ρ, cs, m, G, W, E, F⟩ => by
  refine ⟨ρ, cs, m, G, W, E, F.bind.impE fun ds cs1 m1 G1 H1 eq x1 W1 F1 vs rvs => ⟨?_, fun p hp => ?_⟩⟩
  · rw [← rvs.length, h.len _ _ _ _ eq, sizeLine_eq]; omega
  · exact F1 (m1 ++ [p]) G1 _ (Ext.cell hp) (W1.cellNew hp rvs) _ (.obj (by rw [List.getElem?_append_right (by rw [W1.len]; exact Nat.le_refl _), W1.len, Nat.sub_self]; rfl))

/-! ### subscripts -/
theorem atI_eq {α : Type} (xs : List α) (i : Int) : RP.atI xs i = L2.atI xs i := rfl
theorem atI_rel {K : PySem.W.Frag} {m : List Addr} {G : Hp} {ds : List D} {vs : List V} {i : Int} {d : D} (r : Rels K m G ds vs) (h : RP.atI ds i = some d) : ∃ v, L2.atI vs i = some v ∧ Rel K m G d v := by
  unfold RP.atI RP.ixN at h
  unfold L2.atI L2.ixN
  rw [← r.length]
  cases e : (if 0 ≤ i then (if i < (ds.length : Int) then some i.toNat else none) else if -(ds.length : Int) ≤ i then some (i + ds.length).toNat else none) with
  | none => rw [e] at h; cases h
  | some j =>
    rw [e] at h
    exact Rels.get' r h
def rIxAll (K : PySem.W.Frag) : R2 := rIx K
theorem strSign {s : Str} {i : Int} {c : Nat} (h : okS s) (e : RP.atI s.cps.toList i = some c) : okS ⟨#[c]⟩ := by
  unfold RP.atI at e
  cases e1 : RP.ixN s.cps.toList.length i with
  | none => rw [e1] at e; cases e
  | some j =>
    rw [e1] at e
    have hm : c ∈ s.cps.toList := List.mem_of_getElem? e
    refine ⟨?_, by rw [sizeLine_eq]; show 1 ≤ _; decide⟩
    have h1 := h.1
    unfold PyData.strOk at h1 ⊢
    rw [← Array.all_toList, List.all_eq_true] at h1
    have := h1 c hm
    simpa using this
theorem opd_ix (K : PySem.W.Frag) : OpD K (rIx K) ixS := fun m G H cs dx dy x y Q W rx ry F => by
  unfold ixS at F
  split at F
  · obtain ⟨d, e, F⟩ := F.optM W
    obtain ⟨a, vs, rfl, h1, h1g, r⟩ := rx.tup W
    obtain ⟨v, e2, rv⟩ := atI_rel r e
    exact .inr (.inl ⟨a, vs, _, v, rfl, ry.int, h1, e2, F v rv⟩)
  · obtain ⟨d, e, F⟩ := F.optM W
    obtain ⟨a, vs, rfl, h1, r⟩ := rx.lst W
    obtain ⟨v, e2, rv⟩ := atI_rel r e
    exact .inl ⟨a, vs, _, v, rfl, ry.int, SqL.of h1, e2, F v rv⟩
  · rename_i s i
    have F0 := F.bind
    obtain ⟨c, e, F1⟩ := F0.optM W
    obtain ⟨rfl, ok⟩ := rx.str
    exact .inr (.inr ⟨s, i, c, rfl, ry.int, ok.2, e, Post.pure W F1 _ (.str (strSign ok e))⟩)
  · rename_i n i
    have F0 := F.bind
    unfold cellAt at F0
    cases e : cs[n]? with
    | none => rw [e] at F0; exact F0.elim
    | some xs =>
      rw [e] at F0
      have F1 := F0 m G H (Ext.refl m G H) W
      obtain ⟨d, e1, F2⟩ := Post.optM W F1
      obtain ⟨a, vs, rfl, h0, h1, r⟩ := rx.obj W e
      obtain ⟨v, e2, rv⟩ := atI_rel r e1
      exact .inl ⟨a, vs, i, v, rfl, ry.int, SqL.of h1, e2, F2 v rv⟩
  · exact F.elim
theorem _root_.L2.PE.or {X : Cx} {e : Expr} {t t' : TE} (h : PE X e t) (h' : PE X e t') : PE X e fun σ H Q => t σ H Q ∨ t' σ H Q :=
  ⟨fun pins s σ H Q I q => q.elim (fun q => h.run pins s σ H Q I q) (fun q => h'.run pins s σ H Q I q)⟩
theorem key_in {K : PySem.W.Frag} {m : List Addr} {G : Hp} {d : D} {k : Key} : ∀ {kvs : List (Key × V)} {ks ds : List D}, Rels K m G ks (kvs.map fun kv => kV kv.1) → Rels K m G ds (kvs.map fun kv => kv.2) →
    (∀ x : D, ∀ kk : Key, Rel K m G x (kV kk) → D.eqv x d = decide (kk = k)) → ∀ {r : D}, lookD d ks ds = some r → ∃ v, valV kvs k = some v ∧ Rel K m G r v
  | [], _, _, .nil, .nil, _, _, e => by cases e
  | kv :: kvs, _, _, .cons hk rk, .cons hv rv, q, r, e => by
    unfold lookD at e
    rw [q _ _ hk] at e
    unfold valV
    rw [List.find?_cons]
    by_cases hd : kv.1 = k
    · rw [decide_eq_true hd] at e ⊢
      rw [if_pos rfl] at e
      cases e
      exact ⟨kv.2, rfl, hv⟩
    · rw [decide_eq_false hd] at e ⊢
      rw [if_neg (fun z => nomatch z)] at e
      exact key_in rk rv q e
theorem key_str {K : PySem.W.Frag} {m : List Addr} {G : Hp} {z : Str} (x : D) (kk : Key) (r : Rel K m G x (kV kk)) : D.eqv x (.str z) = decide (kk = .inr z) := by
  cases kk with
  | inl i => cases r; simp [D.eqv]
  | inr y => cases r; simp [D.eqv]; rw [Bool.eq_iff_iff, beq_iff_eq, decide_eq_true_eq]; try exact Iff.rfl
theorem key_int {K : PySem.W.Frag} {m : List Addr} {G : Hp} {z : Int} (x : D) (kk : Key) (r : Rel K m G x (kV kk)) : D.eqv x (.int z) = decide (kk = .inl z) := by
  cases kk with
  | inl i => cases r; simp [D.eqv]; rw [Bool.eq_iff_iff, beq_iff_eq, decide_eq_true_eq]; try exact Iff.rfl
  | inr y => cases r; simp [D.eqv]
theorem getD_read {K : PySem.W.Frag} {m : List Addr} {G H : Hp} {cs : Cells} (W : Wf K m G H cs) {dx dy : D} {x y : V} {Q : VK} (rx : RelB K m G H dx x) (ry : RelB K m G H dy y)
    (F : Post K m G H (getD dx dy cs) (fun d _ m' G' H' => ∀ v, Rel K m' G' d v → Q v H')) : ∃ a v, x = .ref a ∧ DGet H a y (some v) ∧ Q v H := by
  unfold getD at F
  split at F
  · obtain ⟨d, e, F⟩ := F.optM W
    obtain ⟨a, kvs, rfl, h1, h2, rk, rv⟩ := rx.dct W
    obtain ⟨rfl, ok⟩ := ry.str
    obtain ⟨v, e2, r2⟩ := key_in rk rv key_str e
    exact ⟨a, v, rfl, .inl ⟨kvs, .inr _, .inl h1, rfl, e2.symm⟩, F v r2⟩
  · obtain ⟨d, e, F⟩ := F.optM W
    obtain ⟨a, kvs, rfl, h1, h2, rk, rv⟩ := rx.dct W
    obtain rfl := ry.int
    obtain ⟨v, e2, r2⟩ := key_in rk rv key_int e
    exact ⟨a, v, rfl, .inl ⟨kvs, .inl _, .inl h1, rfl, e2.symm⟩, F v r2⟩
  · exact F.elim
theorem ix_split {K : PySem.W.Frag} {m : List Addr} {G H : Hp} {cs : Cells} {ρ : Env} {P : D → Cells → List Addr → Hp → Hp → Prop} (F : Post K m G H (eOp2 ixD fa fb ρ cs) P) : Post K m G H (eOp2 ixS fa fb ρ cs) P ∨ Post K m G H (eOp2 getD fa fb ρ cs) P := by
  unfold eOp2 at F ⊢
  rw [M.bind_eq] at F
  rw [M.bind_eq, M.bind_eq]
  cases e : fa ρ cs with
  | ok d cs1 =>
    rw [e] at F
    dsimp only at F ⊢
    unfold ixD at F
    by_cases hd : d.isDct = true
    · simp only [hd, if_true] at F; exact .inr F
    · simp only [hd, if_false] at F; exact .inl F
  | exc c cs1 => rw [e] at F; exact F.elim
  | bad => rw [e] at F; exact F.elim
theorem se_ix (ha : SO S T a fa) (hb : SO S T b fb) (hs : PlainIx b := by exact fun _ _ => rfl) (hs2 : NoSl b := by exact fun _ _ => rfl) : SE S T (.Subscript a b pos) (eOp2 ixD fa fb) := fun X g =>
  (PE.or (pe_ix ix_seq (ha X g) (hb X g) hs) (pe_dget (by have := g.hu; omega) (ha X g) (hb X g) hs2)).imp fun σ H Q ⟨ρ, cs, m, G, W, E, F⟩ => by
    rcases ix_split F with F | F
    · exact .inl (op2_read (opd_ix X.K) ⟨ρ, cs, m, G, W, E, F⟩)
    · exact .inr ⟨ρ, cs, m, G, W, E, F.bind.imp fun dx cs1 m1 G1 H1 x1 W1 F1 v rv => ⟨ρ, cs1, m1, G1, W1, E.ext x1, F1.bind.imp fun dy cs2 m2 G2 H2 x2 W2 F2 u ru => getD_read W2 (rv.ext x2) ru F2⟩⟩
/-! ### slices -/
structure SPo (S : SCtx) (T : Tab) (o : Option Expr) (f : PF) : Prop where
  run : ∀ X, Good S T X → ∃ t, PO X o t ∧ ∀ (σ : St) (H : Hp) (R : Option Int → Hp → Prop) (ρ : Env) (cs : Cells) (m : List Addr) (G : Hp), Wf X.K m G H cs → EnvR X.K m G H ρ σ → Post X.K m G H (f ρ cs) (fun o _ _ _ H' => R o H') → t σ H R
theorem spo_none : SPo S T none pNone := ⟨fun X g => ⟨_, po_none, fun σ H R ρ cs m G W E F => Post.pure W F⟩⟩
theorem spo_some (h : SO S T a fa) : SPo S T (some a) (pSome fa) := ⟨fun X g => ⟨_, po_some (h X g), fun σ H R ρ cs m G W E F => ⟨ρ, cs, m, G, W, E, F.bind.imp fun d cs1 m1 G1 H1 x1 W1 F1 v rv => by
  cases d with
  | int i => exact ⟨i, rv.int, Post.pure W1 (Post.pure W1 F1.bind)⟩
  | _ => exact F1.elim⟩⟩⟩
theorem cut_rel {K : PySem.W.Frag} {m : List Addr} {G : Hp} {ds : List D} {vs : List V} (r : Rels K m G ds vs) (lo hi : Option Int) : Rels K m G (cut ds lo hi) (cutV vs lo hi) := by
  unfold cut cutV
  rw [← r.length]
  exact Rels.take _ (Rels.drop _ r)
theorem cut_whole {K : PySem.W.Frag} {m : List Addr} {G : Hp} {ds : List D} {vs : List V} (r : Rels K m G ds vs) {lo hi : Option Int} (h : HT.sIx vs.length 0 lo = 0 ∧ HT.sIx vs.length vs.length hi = vs.length) : cut ds lo hi = ds := by
  unfold cut
  rw [r.length]
  have h1 : RP.sIx vs.length 0 lo = 0 := h.1
  have h2 : RP.sIx vs.length vs.length hi = vs.length := h.2
  rw [h1, h2, List.drop_zero, Nat.sub_zero, ← r.length, List.take_length]
theorem cut_ok {z : Str} (ok : okS z) {lo hi : Option Int} : okS ⟨(cut z.cps.toList lo hi).toArray⟩ := by
  have sub : ∀ c ∈ cut z.cps.toList lo hi, c ∈ z.cps.toList := fun c h => by
    unfold cut at h
    exact List.mem_of_mem_drop (List.mem_of_mem_take h)
  refine ⟨?_, ?_⟩
  · have h1 := ok.1
    unfold PyData.strOk at h1 ⊢
    rw [← Array.all_toList, List.all_eq_true] at h1 ⊢
    intro c hc
    exact h1 c (sub c (by simpa using hc))
  · have h2 := ok.2
    have : (cut z.cps.toList lo hi).length ≤ z.cps.toList.length := by
      unfold cut
      rw [List.length_take, List.length_drop]
      omega
    rw [Array.length_toList] at this
    show (cut z.cps.toList lo hi).toArray.size ≤ sizeLine
    rw [List.size_toArray]
    exact Nat.le_trans this h2
/-- a slice of a tuple -/
theorem se_slice {lo hi : Option Expr} {fl fh : PF} {p2 : Pos} (ha : SO S T a fa) (hl : SPo S T lo fl) (hh : SPo S T hi fh) : SE S T (.Subscript a (.Slice lo hi none p2) pos) (eSlice fa fl fh) := fun X g => by
  obtain ⟨tl, pl, kl⟩ := hl.run X g
  obtain ⟨th, ph, kh⟩ := hh.run X g
  refine (pe_slice (sl_tupA.or (sl_list.or sl_str)) (ha X g) pl ph).imp fun σ H Q ⟨ρ, cs, m, G, W, E, F⟩ => ?_
  refine ⟨ρ, cs, m, G, W, E, F.bind.imp fun d cs1 m1 G1 H1 x1 W1 F1 v rv => ?_⟩
  refine kl σ H1 _ ρ cs1 m1 G1 W1 (E.ext x1) (F1.bind.imp fun l cs2 m2 G2 H2 x2 W2 F2 => ?_)
  refine kh σ H2 _ ρ cs2 m2 G2 W2 ((E.ext x1).ext x2) (F2.bind.imp fun u cs3 m3 G3 H3 x3 W3 F3 => ?_)
  have rv3 := (rv.ext x2).ext x3
  cases d with
  | tup ds =>
    obtain ⟨a', vs, rfl, h1, h1g, r⟩ := rv3.tup W3
    refine .inl ⟨a', vs, rfl, h1, fun w => ?_, fun w q hq => ?_⟩
    · have F4 := Post.pure W3 F3
      rw [cut_whole r w] at F4
      exact F4 _ (.tup h1g r)
    · exact F3 m3 (upd G3 q (.tup (cutV vs l u))) _ (Ext.new hq W3.sub) (W3.new hq) _ (.tup (SqT.of upd_same) (Rels.mono (Pre.refl m3) (Same.fix (W3.noG hq)) (cut_rel r l u)))
  | lst ds =>
    obtain ⟨a', vs, rfl, h1, r⟩ := rv3.lst W3
    refine .inr (.inl ⟨a', vs, rfl, SqL.of h1, fun q hq => ?_⟩)
    exact F3 m3 (upd G3 q (.lst (cutV vs l u))) _ (Ext.new hq W3.sub) (W3.new hq) _ (.lst upd_same (Rels.mono (Pre.refl m3) (Same.fix (W3.noG hq)) (cut_rel r l u)))
  | str z =>
    obtain ⟨rfl, ok⟩ := rv3.str
    exact .inr (.inr ⟨z, rfl, ok.2, Post.pure W3 F3 _ (.str (cut_ok ok))⟩)
  | _ => exact F3.elim
/-- a slice of a list: a new one -/
theorem sfr_slice {lo hi : Option Expr} {fl fh : PF} {p2 : Pos} (ha : SO S T a fa) (hl : SPo S T lo fl) (hh : SPo S T hi fh) : SFr S T (.Subscript a (.Slice lo hi none p2) pos) (lSlice fa fl fh) := fun X g => by
  obtain ⟨tl, pl, kl⟩ := hl.run X g
  obtain ⟨th, ph, kh⟩ := hh.run X g
  refine (pe_slice sl_list (ha X g) pl ph).imp fun σ H Q ⟨ρ, cs, m, G, W, E, F⟩ => ?_
  refine ⟨ρ, cs, m, G, W, E, F.bind.imp fun d cs1 m1 G1 H1 x1 W1 F1 v rv => ?_⟩
  refine kl σ H1 _ ρ cs1 m1 G1 W1 (E.ext x1) (F1.bind.imp fun l cs2 m2 G2 H2 x2 W2 F2 => ?_)
  refine kh σ H2 _ ρ cs2 m2 G2 W2 ((E.ext x1).ext x2) (F2.bind.imp fun u cs3 m3 G3 H3 x3 W3 F3 => ?_)
  have rv3 := (rv.ext x2).ext x3
  cases d with
  | lst ds =>
    obtain ⟨a', vs, rfl, h1, r⟩ := rv3.lst W3
    refine ⟨a', vs, rfl, SqL.of h1, fun q hq => ?_⟩
    exact F3 m3 G3 _ (Ext.own hq) (W3.own hq) q _ (none_back x1 (none_back x2 (none_back x3 hq))) upd_same (W3.noG hq) (W3.noM hq) (cut_rel r l u)
  | _ => exact F3.elim
end
end RP
end

section
set_option Elab.async false
set_option linter.all false
set_option maxRecDepth 100000
set_option autoImplicit false
/-! RpS6: built-in functions. -/
namespace RP
open PySem PySem.Spec PyProof.Rows L2

theorem RelsB.nil_inv {K : PySem.W.Frag} {m : List Addr} {G H : Hp} {vs : List V} (r : RelsB K m G H [] vs) : vs = [] := by cases r; rfl
theorem RelsB.one {K : PySem.W.Frag} {m : List Addr} {G H : Hp} {d : D} {vs : List V} (r : RelsB K m G H [d] vs) : ∃ v, vs = [v] ∧ RelB K m G H d v := by
  cases r with
  | cons h t => cases t; exact ⟨_, rfl, h⟩
theorem RelsB.two {K : PySem.W.Frag} {m : List Addr} {G H : Hp} {d e : D} {vs : List V} (r : RelsB K m G H [d, e] vs) : ∃ v u, vs = [v, u] ∧ RelB K m G H d v ∧ RelB K m G H e u := by
  cases r with
  | cons h t =>
    cases t with
    | cons h2 t2 => cases t2; exact ⟨_, _, rfl, h, h2⟩

theorem cad_len (K : PySem.W.Frag) : CaD K (fun xs H Q => (∃ p ys, xs = [.ref p] ∧ (SqL K H p ys ∨ SqT K H p ys) ∧ Q (.int ys.length) H) ∨ (∃ z, xs = [.str z] ∧ z.length ≤ sizeLine ∧ Q (.int z.length) H)) lenD := fun m G H cs ds vs Q W r F => by
  unfold lenD at F
  split at F
  · obtain ⟨v, rfl, rv⟩ := r.one
    obtain ⟨a, ws, rfl, h1, h1g, rr⟩ := rv.tup W
    rw [rr.length] at F
    exact .inl ⟨a, ws, rfl, .inr h1, Post.pure W F _ (.int _)⟩
  · obtain ⟨v, rfl, rv⟩ := r.one
    obtain ⟨a, ws, rfl, h1, rr⟩ := rv.lst W
    rw [rr.length] at F
    exact .inl ⟨a, ws, rfl, .inl (SqL.of h1), Post.pure W F _ (.int _)⟩
  · obtain ⟨v, rfl, rv⟩ := r.one
    obtain ⟨a, ws, rfl, h1, rr⟩ := rv.scr W
    rw [rr.length] at F
    exact .inl ⟨a, ws, rfl, .inl h1, Post.pure W F _ (.int _)⟩
  · obtain ⟨v, rfl, rv⟩ := r.one
    obtain ⟨rfl, ok⟩ := rv.str
    exact .inr ⟨_, rfl, ok.2, Post.pure W F _ (.int _)⟩
  · exact F.elim
theorem cad_abs (K : PySem.W.Frag) : CaD K (fun xs H Q => ∃ i, xs = [.int i] ∧ Q (.int (if i < 0 then -i else i)) H) absD := fun m G H cs ds vs Q W r F => by
  unfold absD at F
  split at F
  · obtain ⟨v, rfl, rv⟩ := r.one
    rw [rv.int]
    exact ⟨_, rfl, Post.pure W F _ (.int _)⟩
  · exact F.elim
theorem cad_int (K : PySem.W.Frag) : CaD K (fun xs H Q => (∃ i, xs = [.int i] ∧ Q (.int i) H) ∨ ∃ k, xs = [.bl k] ∧ Q (.int (if k then 1 else 0)) H) intD := fun m G H cs ds vs Q W r F => by
  unfold intD at F
  split at F
  · obtain ⟨v, rfl, rv⟩ := r.one
    rw [rv.int]
    exact .inl ⟨_, rfl, Post.pure W F _ (.int _)⟩
  · obtain ⟨v, rfl, rv⟩ := r.one
    rw [rv.bl]
    exact .inr ⟨_, rfl, Post.pure W F _ (.int _)⟩
  · exact F.elim
theorem str_small : ∀ n : Nat, n < 100 → strOkB (toString (n : Int) : String) = true := by decide +kernel
theorem call_str_str {X : Cx} : CallR X (.type "str") (fun xs H Q => ∃ z, xs = [.str z] ∧ Q (.str z) H) := by
  intro pins s σ H xs us Q I r h
  obtain ⟨z, rfl, q⟩ := h
  obtain ⟨u, rfl, ru⟩ := vals1 r
  obtain ⟨t, rfl⟩ := ru
  exact PySem.P.str_of_str ⟨.str z, H, I, ⟨t, rfl⟩, q⟩
theorem cad_str (K : PySem.W.Frag) : CaD K (fun xs H Q => (∃ i, xs = [.int i] ∧ i.natAbs.log2 < 1920 ∧ Q (.str (toString i : String)) H) ∨ (∃ z, xs = [.str z] ∧ Q (.str z) H)) strD := fun m G H cs ds vs Q W r F => by
  unfold strD at F
  split at F
  · rename_i i
    obtain ⟨v, rfl, rv⟩ := r.one
    rw [rv.int]
    obtain ⟨h, F⟩ := F.need
    rw [Bool.and_eq_true, decide_eq_true_eq, decide_eq_true_eq] at h
    refine .inl ⟨_, rfl, ?_, Post.pure W F _ (.str ?_)⟩
    · have : i.natAbs < 2 ^ 1920 := Nat.lt_of_lt_of_le (show i.natAbs < 100 by omega) (Nat.le_of_lt (by decide +kernel))
      by_cases h0 : i.natAbs = 0
      · rw [h0]; decide
      · exact (Nat.log2_lt h0).mpr this
    · have := str_small i.natAbs (by omega)
      have e : ((i.natAbs : Nat) : Int) = i := by omega
      rw [e] at this
      exact okS_of this
  · obtain ⟨v, rfl, rv⟩ := r.one
    obtain ⟨rfl, ok⟩ := rv.str
    exact .inr ⟨_, rfl, Post.pure W F _ (.str ok)⟩
  · exact F.elim
theorem cad_ord (K : PySem.W.Frag) : CaD K (fun xs H Q => ∃ x, xs = [.str x] ∧ x.length = 1 ∧ Q (.int (x.cps.getD 0 0 : Nat)) H) ordD := fun m G H cs ds vs Q W r F => by
  unfold ordD at F
  split at F
  · rename_i s
    obtain ⟨v, rfl, rv⟩ := r.one
    obtain ⟨rfl, ok⟩ := rv.str
    cases hc : s.cps.toList with
    | nil => rw [hc] at F; exact F.elim
    | cons c t =>
      cases t with
      | cons _ _ => rw [hc] at F; exact F.elim
      | nil =>
        rw [hc] at F
        have e := one_sign hc
        subst e
        exact ⟨_, rfl, rfl, Post.pure W F _ (.int _)⟩
  · exact F.elim
theorem allBl_read {K : PySem.W.Frag} {m : List Addr} {G H : Hp} {cs : Cells} (W : Wf K m G H cs) : ∀ {ds : List D} {vs : List V} {P : List Bool → Cells → List Addr → Hp → Hp → Prop}, Rels K m G ds vs → Post K m G H (allBl ds cs) P → ∃ bs : List Bool, vs = bs.map V.bl ∧ P bs cs m G H
  | [], _, _, .nil, F => ⟨[], rfl, Post.pure W F⟩
  | d :: ds, _, _, .cons r rs, F => by
    cases d with
    | bl b =>
      obtain ⟨bs, rfl, q⟩ := allBl_read W rs F.bind
      cases r
      exact ⟨b :: bs, rfl, Post.pure W q⟩
    | _ => exact F.elim
theorem cad_all (K : PySem.W.Frag) : CaD K (rAll K) allD := fun m G H cs ds vs Q W r F => by
  unfold allD at F
  split at F
  · obtain ⟨v, rfl, rv⟩ := r.one
    obtain ⟨a, ws, rfl, h1, rr⟩ := rv.lst W
    obtain ⟨bs, rfl, q⟩ := allBl_read W rr F.bind
    exact ⟨a, bs, rfl, SqL.of h1, Post.pure W q _ (.bl _)⟩
  · exact F.elim
theorem cad_any (K : PySem.W.Frag) : CaD K (rAny K) anyD := fun m G H cs ds vs Q W r F => by
  unfold anyD at F
  split at F
  · obtain ⟨v, rfl, rv⟩ := r.one
    obtain ⟨a, ws, rfl, h1, rr⟩ := rv.lst W
    obtain ⟨bs, rfl, q⟩ := allBl_read W rr F.bind
    exact ⟨a, bs, rfl, SqL.of h1, Post.pure W q _ (.bl _)⟩
  · exact F.elim
theorem cad_tuple (K : PySem.W.Frag) : CaD K (fun xs H Q => ∃ p ys, xs = [.ref p] ∧ ((SqL K H p ys ∧ ∀ l, H l = none → Q (.ref l) (upd H l (.tup ys))) ∨ (SqT K H p ys ∧ Q (.ref p) H))) tupleD := fun m G H cs ds vs Q W r F => by
  unfold tupleD at F
  split at F
  · obtain ⟨v, rfl, rv⟩ := r.one
    obtain ⟨a, ws, rfl, h1, rr⟩ := rv.lst W
    exact ⟨a, ws, rfl, .inl ⟨SqL.of h1, fun l hl => F m (upd G l (.tup ws)) _ (Ext.new hl W.sub) (W.new hl) _ (.tup (SqT.of upd_same) (Rels.mono (Pre.refl m) (Same.fix (W.noG hl)) rr))⟩⟩
  · obtain ⟨v, rfl, rv⟩ := r.one
    obtain ⟨a, ws, rfl, h1, h1g, rr⟩ := rv.tup W
    exact ⟨a, ws, rfl, .inr ⟨h1, Post.pure W F _ (.tup h1g rr)⟩⟩
  · exact F.elim
/-- a list or a tuple -/
theorem asSeq_read {K : PySem.W.Frag} {m : List Addr} {G H : Hp} {cs : Cells} (W : Wf K m G H cs) {d : D} {v : V} {P : List D → Cells → List Addr → Hp → Hp → Prop} (r : RelB K m G H d v) (F : Post K m G H (asSeq d cs) P) :
    ∃ a vs ds, v = .ref a ∧ (SqL K H a vs ∨ SqT K H a vs) ∧ Rels K m G ds vs ∧ asSeq d = pure ds ∧ Post K m G H ((pure ds : M (List D)) cs) P := by
  cases d with
  | lst ds =>
    obtain ⟨a, ws, rfl, h1, rr⟩ := r.lst W
    exact ⟨a, ws, ds, rfl, .inl (SqL.of h1), rr, rfl, F⟩
  | tup ds =>
    obtain ⟨a, ws, rfl, h1, h1g, rr⟩ := r.tup W
    exact ⟨a, ws, ds, rfl, .inr h1, rr, rfl, F⟩
  | scr ds =>
    obtain ⟨a, ws, rfl, h1, rr⟩ := r.scr W
    exact ⟨a, ws, ds, rfl, .inl h1, rr, rfl, F⟩
  | _ => exact F.elim
section
variable {S : SCtx} {T : Tab} {e a b c : Expr} {es : List Expr} {pos p : Pos} {f fa fb fc : EF} {fs : AF} {t u : TF}
theorem se_len (h : SO S T a fa) (hg : glB S "len" = true := by decide +kernel) (hn : noStar a = true := by rfl) : SE S T (.Call (.Name "len" p) [a] [] pos) (eCall lenD (aCons fa aNil)) :=
  se_callB (fun X g => fun pins s σ H xs us Q I r h => h.elim (fun h => call_len_seq pins s σ H xs us Q I r h) (fun h => call_len_str pins s σ H xs us Q I r h)) cad_len (by decide +kernel) PySem.boot_len (sb_cons h sb_nil hn) hg
theorem se_abs (h : SO S T a fa) (hg : glB S "abs" = true := by decide +kernel) (hn : noStar a = true := by rfl) : SE S T (.Call (.Name "abs" p) [a] [] pos) (eCall absD (aCons fa aNil)) :=
  se_callB (r := fun _ => _) (fun X g => call_abs) cad_abs (by decide +kernel) (by decide +kernel) (sb_cons h sb_nil hn) hg
theorem se_ord (h : SO S T a fa) (hg : glB S "ord" = true := by decide +kernel) (hn : noStar a = true := by rfl) : SE S T (.Call (.Name "ord" p) [a] [] pos) (eCall ordD (aCons fa aNil)) :=
  se_callB (r := fun _ => _) (fun X g => call_ord) cad_ord (by decide +kernel) (by decide +kernel) (sb_cons h sb_nil hn) hg
theorem se_int1 (h : SO S T a fa) (hg : glB S "int" = true := by decide +kernel) (hn : noStar a = true := by rfl) : SE S T (.Call (.Name "int" p) [a] [] pos) (eCall intD (aCons fa aNil)) :=
  se_callTy (r := fun _ => _) (fun X g => call_int1) cad_int (by decide +kernel) (by decide +kernel) (sb_cons h sb_nil hn) hg
theorem se_str1 (h : SO S T a fa) (hg : glB S "str" = true := by decide +kernel) (hn : noStar a = true := by rfl) : SE S T (.Call (.Name "str" p) [a] [] pos) (eCall strD (aCons fa aNil)) :=
  se_callTy (r := fun _ => _) (fun X g => fun pins s σ H xs us Q I r h => h.elim (fun h => call_str_int pins s σ H xs us Q I r h) (fun h => call_str_str pins s σ H xs us Q I r h)) cad_str (by decide +kernel) (by decide +kernel) (sb_cons h sb_nil hn) hg
theorem se_all (h : SO S T a fa) (hg : glB S "all" = true := by decide +kernel) (hn : noStar a = true := by rfl) : SE S T (.Call (.Name "all" p) [a] [] pos) (eCall allD (aCons fa aNil)) :=
  se_callB (fun X g => cr_all g.calm) cad_all (by decide +kernel) (by decide +kernel) (sb_cons h sb_nil hn) hg
theorem se_any (h : SO S T a fa) (hg : glB S "any" = true := by decide +kernel) (hn : noStar a = true := by rfl) : SE S T (.Call (.Name "any" p) [a] [] pos) (eCall anyD (aCons fa aNil)) :=
  se_callB (fun X g => cr_any g.calm) cad_any (by decide +kernel) (by decide +kernel) (sb_cons h sb_nil hn) hg
theorem se_tuple (h : SO S T a fa) (hg : glB S "tuple" = true := by decide +kernel) (hn : noStar a = true := by rfl) : SE S T (.Call (.Name "tuple" p) [a] [] pos) (eCall tupleD (aCons fa aNil)) :=
  se_callTy (fun X g => call_tuple_of) cad_tuple (by decide +kernel) (by decide +kernel) (sb_cons h sb_nil hn) hg
/-- list(x): a new list -/
theorem sfr_list (h : SO S T a fa) (hg : glB S "list" = true := by decide +kernel) (hn : noStar a = true := by rfl) : SFr S T (.Call (.Name "list" p) [a] [] pos) (lCall listD (aCons fa aNil)) := fun X g => by
  obtain ⟨q1, q2, q3⟩ := glG g hg
  refine (pe_callTy call_list_of q1 (g.blt "list" (by decide +kernel)) (by decide +kernel) ((sb_cons h sb_nil hn).run X g) q3 q2 (star_cons hn [] X.env) rfl).imp fun σ H Q ⟨ρ, cs, m, G, W, E, F⟩ => ?_
  refine ⟨ρ, cs, m, G, W, E, F.bind.imp fun xs cs1 m1 G1 H1 x1 W1 F1 vs rvs => ?_⟩
  cases rvs with
  | nil => exact F1.elim
  | cons rv rr =>
    cases rr with
    | cons _ _ => exact F1.elim
    | nil =>
      obtain ⟨a', ws, ds, rfl, hs, rr, eq, F2⟩ := asSeq_read W1 rv F1
      exact ⟨a', ws, rfl, hs, fun q hq => F2 m1 G1 _ (Ext.own hq) (W1.own hq) q ws (none_back x1 hq) upd_same (W1.noG hq) (W1.noM hq) rr⟩
/-! ### isinstance -/
def Ty.name : Ty → String
  | .int => "int" | .bool => "bool" | .str => "str" | .tuple => "tuple" | .list => "list" | .dict => "dict"
theorem kit_all (K : PySem.W.Frag) (ty : Ty) : PySem.W.kitOne K (.type "NoneType") (.type ty.name) = some false ∧ PySem.W.kitOne K (.type "bool") (.type ty.name) = some (decide (ty = .int) || decide (ty = .bool)) ∧
    PySem.W.kitOne K (.type "int") (.type ty.name) = some (decide (ty = .int)) ∧ PySem.W.kitOne K (.type "str") (.type ty.name) = some (decide (ty = .str)) ∧
    PySem.W.kitOne K (.type "tuple") (.type ty.name) = some (decide (ty = .tuple)) ∧ PySem.W.kitOne K (.type "list") (.type ty.name) = some (decide (ty = .list)) := by
  cases ty <;> exact ⟨kit_ty (by decide +kernel), kit_ty (by decide +kernel), kit_ty (by decide +kernel), kit_ty (by decide +kernel), kit_ty (by decide +kernel), kit_ty (by decide +kernel)⟩
theorem isi_read {K : PySem.W.Frag} {m : List Addr} {G H : Hp} {cs : Cells} (W : Wf K m G H cs) {d : D} {v : V} {ty : Ty} {P : Bool → Cells → List Addr → Hp → Hp → Prop} (r : RelB K m G H d v) (F : Post K m G H (isIn d ty cs) P) :
    ∃ t b, TyX K H v t ∧ PySem.W.kitOne K t (.type ty.name) = some b ∧ P b cs m G H := by
  obtain ⟨k1, k2, k3, k4, k5, k6⟩ := kit_all K ty
  cases d with
  | non => rw [r.non]; exact ⟨_, _, .base .non, k1, Post.pure W F⟩
  | bl x => rw [r.bl]; refine ⟨_, _, .base (.bl x), k2, ?_⟩; cases ty <;> exact Post.pure W F
  | int x => rw [r.int]; refine ⟨_, _, .base (.int x), k3, ?_⟩; cases ty <;> exact Post.pure W F
  | str x => rw [r.str.1]; refine ⟨_, _, .base (.str x), k4, ?_⟩; cases ty <;> exact Post.pure W F
  | tup xs =>
    obtain ⟨a, vs, rfl, h1, h1g, rr⟩ := r.tup W
    have tyx : TyX K H (.ref a) (.type "tuple") := by
      rcases h1 with (h | ⟨o, h⟩) | ⟨o, its, n, hk, hc, _⟩
      · exact .base (.tup h)
      · exact .fTuple h
      · exact .kTuple hk hc
    refine ⟨_, _, tyx, k5, ?_⟩
    cases ty <;> exact Post.pure W F
  | lst xs =>
    obtain ⟨a, vs, rfl, h1, rr⟩ := r.lst W
    refine ⟨_, _, .base (.lst h1), k6, ?_⟩
    cases ty <;> exact Post.pure W F
  | _ => cases ty <;> exact F.elim
theorem boot_ty (ty : Ty) : bootBuiltins (Str.ofString ty.name) = some (.type ty.name) := by cases ty <;> decide +kernel
theorem mem_ty (ty : Ty) : Str.ofString ty.name ∈ bltNames := by cases ty <;> decide +kernel
theorem se_isin (ty : Ty) {p2 : Pos} (h : SO S T a fa) (hg : glB S "isinstance" = true := by decide +kernel) (hg2 : glB S (Str.ofString ty.name) = true := by decide +kernel) (hn : noStar a = true := by rfl) :
    SE S T (.Call (.Name "isinstance" p) [a, .Name (Str.ofString ty.name) p2] [] pos) (eIsin fa ty) := fun X g => by
  obtain ⟨q1, q2, q3⟩ := glG g hg
  obtain ⟨r1, r2, r3⟩ := glG g hg2
  have pt : PE X (.Name (Str.ofString ty.name) p2) (tC (.ty ty.name)) := pe_bltn r1 (g.blt _ (mem_ty ty)) (boot_ty ty) rfl r3 r2
  have pa := pa_cons (h X g) (pa_cons pt pa_nil rfl) (star_cons hn _ X.env)
  refine (pe_callB call_isi q1 (g.blt "isinstance" (by decide +kernel)) (by decide +kernel) pa q3 q2 (star_cons hn _ X.env) rfl).imp fun σ H Q ⟨ρ, cs, m, G, W, E, F⟩ => ?_
  refine ⟨ρ, cs, m, G, W, E, F.bind.imp fun d cs1 m1 G1 H1 x1 W1 F1 v rv => ?_⟩
  obtain ⟨t, b, h1, h2, h3⟩ := isi_read W1 rv F1.bind
  exact ⟨v, .ty ty.name, t, _, b, rfl, .ty _, h1, h2, Post.pure W1 h3 _ (.bl b)⟩
/-! ### sorted texts -/
theorem allStr_read {K : PySem.W.Frag} {m : List Addr} {G H : Hp} {cs : Cells} (W : Wf K m G H cs) : ∀ {ds : List D} {vs : List V} {P : List Str → Cells → List Addr → Hp → Hp → Prop}, Rels K m G ds vs → Post K m G H (allStr ds cs) P → ∃ ss : List Str, vs = ss.map V.str ∧ ds = ss.map D.str ∧ (∀ s ∈ ss, okS s) ∧ P ss cs m G H
  | [], _, _, .nil, F => ⟨[], rfl, rfl, (fun _ h => by cases h), Post.pure W F⟩
  | d :: ds, _, _, .cons r rs, F => by
    cases d with
    | str s =>
      obtain ⟨ss, rfl, rfl, h, q⟩ := allStr_read W rs F.bind
      cases r with
      | str ok => exact ⟨s :: ss, rfl, rfl, (fun x hx => (List.mem_cons.mp hx).elim (fun e => e ▸ ok) (h x)), Post.pure W q⟩
    | _ => exact F.elim

end
theorem strLt_total (x y : Str) (h1 : decide (x.cps.toList < y.cps.toList) = false) (h2 : decide (y.cps.toList < x.cps.toList) = false) : x = y := by
  have a := of_decide_eq_false h1
  have b := of_decide_eq_false h2
  have e : x.cps.toList = y.cps.toList := List.le_antisymm (List.not_lt.mp b) (List.not_lt.mp a)
  have e2 : x.cps = y.cps := Array.toList_inj.mp e
  cases x
  cases y
  cases e2
  rfl
theorem strLe_trans {x y z : Str} (h1 : strLe x y = true) (h2 : strLe y z = true) : strLe x z = true := by
  unfold strLe at *
  simp only [Bool.not_eq_true', decide_eq_false_iff_not] at *
  exact fun h => h1 (List.lt_of_le_of_lt (List.not_lt.mp h2) h)
theorem strLe_total (x y : Str) : strLe x y = true ∨ strLe y x = true := by
  unfold strLe
  simp only [Bool.not_eq_true', decide_eq_false_iff_not]
  rcases Classical.em (y.cps.toList < x.cps.toList) with q | q
  · exact .inr fun h => List.lt_irrefl _ (List.lt_trans q h)
  · exact .inl q
theorem strLe_anti {x y : Str} (h1 : strLe x y = true) (h2 : strLe y x = true) : x = y := by
  unfold strLe at *
  rw [Bool.not_eq_true'] at h1 h2
  exact strLt_total x y h2 h1
theorem insS_perm (x : Str) : ∀ ys, (insS x ys).Perm (x :: ys)
  | [] => List.Perm.refl _
  | y :: ys => by
    unfold insS
    split
    · exact List.Perm.refl _
    · exact ((insS_perm x ys).cons y).trans (List.Perm.swap x y ys)
theorem sortS_perm : ∀ xs, (sortS xs).Perm xs
  | [] => List.Perm.refl _
  | x :: xs => (insS_perm x (sortS xs)).trans ((sortS_perm xs).cons x)
theorem insS_sorted (x : Str) : ∀ ys, ys.Pairwise (fun a b => strLe a b = true) → (insS x ys).Pairwise (fun a b => strLe a b = true)
  | [], _ => List.pairwise_singleton _ _
  | y :: ys, h => by
    unfold insS
    rw [List.pairwise_cons] at h
    split
    · rename_i h1
      refine List.pairwise_cons.mpr ⟨fun z hz => ?_, List.pairwise_cons.mpr h⟩
      rcases List.mem_cons.mp hz with rfl | hz
      · exact h1
      · exact strLe_trans h1 (h.1 z hz)
    · rename_i h1
      refine List.pairwise_cons.mpr ⟨fun z hz => ?_, insS_sorted x ys h.2⟩
      rcases List.mem_cons.mp ((insS_perm x ys).mem_iff.mp hz) with rfl | hz
      · exact (strLe_total z y).resolve_left h1
      · exact h.1 z hz
theorem sortS_sorted : ∀ xs, (sortS xs).Pairwise (fun a b => strLe a b = true)
  | [] => List.Pairwise.nil
  | x :: xs => insS_sorted x _ (sortS_sorted xs)
theorem sorted_uniq : ∀ {xs ys : List Str}, xs.Perm ys → xs.Pairwise (fun a b => strLe a b = true) → ys.Pairwise (fun a b => strLe a b = true) → xs = ys
  | [], ys, p, _, _ => (List.nil_perm.mp p).symm
  | x :: xs, [], p, _, _ => absurd (List.perm_nil.mp p) (List.cons_ne_nil _ _)
  | x :: xs, y :: ys, p, h1, h2 => by
    rw [List.pairwise_cons] at h1 h2
    have e : x = y := by
      have hx : x ∈ y :: ys := p.mem_iff.mp List.mem_cons_self
      have hy : y ∈ x :: xs := p.mem_iff.mpr List.mem_cons_self
      rcases List.mem_cons.mp hx with e | hx
      · exact e
      · rcases List.mem_cons.mp hy with e | hy
        · exact e.symm
        · exact strLe_anti (h1.1 y hy) (h2.1 x hx)
    subst e
    rw [sorted_uniq (List.Perm.cons_inv p) h1.2 h2.2]
theorem risingS_pw : ∀ (ys : List Str) (p : Str), risingS p ys = true → (∀ y ∈ ys, strLe p y = true) ∧ ys.Pairwise (fun a b => strLe a b = true)
  | [], _, _ => ⟨fun _ h => by (cases h), List.Pairwise.nil⟩
  | x :: r, p, h => by
    unfold risingS at h
    rw [Bool.and_eq_true, PyProof.Rows.ltCps_eq] at h
    obtain ⟨h1, h2⟩ := risingS_pw r x h.2
    have hp : strLe p x = true := h.1
    exact ⟨fun y hy => (List.mem_cons.mp hy).elim (fun e => e ▸ hp) (fun hy => strLe_trans hp (h1 y hy)), List.pairwise_cons.mpr ⟨h1, h2⟩⟩
theorem sortedS_pw : ∀ {ys : List Str}, sortedS ys = true → ys.Pairwise (fun a b => strLe a b = true)
  | [], _ => List.Pairwise.nil
  | x :: r, h => by
    obtain ⟨h1, h2⟩ := risingS_pw r x h
    exact List.pairwise_cons.mpr ⟨h1, h2⟩
section
variable {S : SCtx} {T : Tab} {e a b c : Expr} {es : List Expr} {pos p : Pos} {f fa fb fc : EF} {fs : AF} {t u : TF}
theorem sfr_sortS (h : SO S T a fa) (hg : glB S "sorted" = true := by decide +kernel) (hn : noStar a = true := by rfl) : SFr S T (.Call (.Name "sorted" p) [a] [] pos) (lCall sortD (aCons fa aNil)) := fun X g => by
  obtain ⟨q1, q2, q3⟩ := glG g hg
  refine (pe_callB cr_sortedS q1 (g.blt "sorted" (by decide +kernel)) (by decide +kernel) ((sb_cons h sb_nil hn).run X g) q3 q2 (star_cons hn [] X.env) rfl).imp fun σ H Q ⟨ρ, cs, m, G, W, E, F⟩ => ?_
  refine ⟨ρ, cs, m, G, W, E, F.bind.imp fun xs cs1 m1 G1 H1 x1 W1 F1 vs rvs => ?_⟩
  unfold sortD at F1
  split at F1
  · rename_i ds
    obtain ⟨v, rfl, rv⟩ := rvs.one
    obtain ⟨a', ws, rfl, h1, rr⟩ := rv.lst W1
    obtain ⟨ss, rfl, rfl, hok, F3⟩ := allStr_read W1 rr F1.bind
    obtain ⟨hlen, F4⟩ := F3.need
    rw [decide_eq_true_eq] at hlen
    refine ⟨a', ss, rfl, SqL.of h1, hlen, fun ys q perm hs hq => ?_⟩
    have ey : ys = sortS ss := sorted_uniq (perm.trans (sortS_perm ss).symm) (sortedS_pw hs) (sortS_sorted ss)
    subst ey
    refine F4 m1 G1 _ (Ext.own hq) (W1.own hq) q _ (none_back x1 hq) upd_same (W1.noG hq) (W1.noM hq) ?_
    have : ∀ l : List Str, (∀ s ∈ l, okS s) → Rels X.K m1 G1 (l.map D.str) (l.map V.str) := fun l => by
      induction l with
      | nil => exact fun _ => .nil
      | cons x xs ih => exact fun h => .cons (.str (h x List.mem_cons_self)) (ih fun s hs => h s (List.mem_cons_of_mem _ hs))
    exact this _ fun s hs => hok s ((sortS_perm ss).mem_iff.mp hs)
  · exact F1.elim
end
end RP
end

section
set_option Elab.async false
set_option linter.all false
set_option maxRecDepth 100000
set_option autoImplicit false
/-! RpS7: targets, what is walked, comprehensions. -/
namespace RP
open PySem PySem.Spec PyProof.Rows L2

/-! ### slots set -/
theorem EnvR.set {K : PySem.W.Frag} {m : List Addr} {G H : Hp} {ρ : Env} {σ : St} {d : D} {v : V} (E : EnvR K m G H ρ σ) (r : Rel K m G d v) (i : Nat) : EnvR K m G H (ρ.set i (.va d)) (σ.set i (some v)) where
  len := by rw [List.length_set, List.length_set]; exact E.len
  sl := fun j s h => by
    by_cases e : i = j
    · subst e
      have hi : i < ρ.length := by
        have := (List.getElem?_eq_some_iff.mp h).1
        rwa [List.length_set] at this
      rw [List.getElem?_set_self hi] at h
      cases h
      exact ⟨some v, List.getElem?_set_self (by rw [← E.len]; exact hi), v, rfl, r⟩
    · rw [List.getElem?_set_ne e] at h ⊢
      exact E.sl j s h
  dis := fun j k xs ys ne h1 h2 => by
    have q : ∀ {j : Nat} {xs : List D}, (ρ.set i (.va d))[j]? = some (.own xs) → i ≠ j ∧ ρ[j]? = some (.own xs) := fun {j xs} h => by
      by_cases e : i = j
      · subst e
        have hi : i < ρ.length := by
          have := (List.getElem?_eq_some_iff.mp h).1
          rwa [List.length_set] at this
        rw [List.getElem?_set_self hi] at h
        cases h
      · rw [List.getElem?_set_ne e] at h
        exact ⟨e, h⟩
    obtain ⟨n1, h1⟩ := q h1
    obtain ⟨n2, h2⟩ := q h2
    rw [List.getElem?_set_ne n1, List.getElem?_set_ne n2]
    exact E.dis j k xs ys ne h1 h2
theorem EnvR.wipe {K : PySem.W.Frag} {m : List Addr} {G H : Hp} {ρ : Env} {σ : St} (E : EnvR K m G H ρ σ) : ∀ vs : List Nat, EnvR K m G H (RP.wipe ρ vs) (L2.wipe σ vs)
  | [] => E
  | v :: vs => by
    have E1 := EnvR.wipe E vs
    have q : ∀ {j : Nat} {s : Sl}, ((RP.wipe ρ vs).set v .no)[j]? = some s → s ≠ .no → v ≠ j ∧ (RP.wipe ρ vs)[j]? = some s := fun {j s} h ne => by
      by_cases e : v = j
      · subst e
        have hi : v < (RP.wipe ρ vs).length := by
          have := (List.getElem?_eq_some_iff.mp h).1
          rwa [List.length_set] at this
        rw [List.getElem?_set_self hi] at h
        cases h
        exact absurd rfl ne
      · rw [List.getElem?_set_ne e] at h
        exact ⟨e, h⟩
    refine ⟨by show ((RP.wipe ρ vs).set v .no).length = ((L2.wipe σ vs).set v none).length; rw [List.length_set, List.length_set]; exact E1.len, fun j s h => ?_, fun j k xs ys ne h1 h2 => ?_⟩
    · have h : ((RP.wipe ρ vs).set v .no)[j]? = some s := h
      show ∃ ov, ((L2.wipe σ vs).set v none)[j]? = some ov ∧ _
      cases s with
      | no =>
        have hj : j < ((L2.wipe σ vs).set v none).length := by
          rw [List.length_set, ← E1.len]
          have := (List.getElem?_eq_some_iff.mp h).1
          rwa [List.length_set] at this
        exact ⟨_, List.getElem?_eq_getElem hj, trivial⟩
      | va d =>
        obtain ⟨e, h⟩ := q h (fun z => nomatch z)
        rw [List.getElem?_set_ne e]
        exact E1.sl j _ h
      | own xs =>
        obtain ⟨e, h⟩ := q h (fun z => nomatch z)
        rw [List.getElem?_set_ne e]
        exact E1.sl j _ h
    · obtain ⟨e1, h1⟩ := q h1 (fun z => nomatch z)
      obtain ⟨e2, h2⟩ := q h2 (fun z => nomatch z)
      show ((L2.wipe σ vs).set v none)[j]? ≠ ((L2.wipe σ vs).set v none)[k]?
      rw [List.getElem?_set_ne e1, List.getElem?_set_ne e2]
      exact E1.dis j k xs ys ne h1 h2

/-! ### targets -/
/-- what stays when a target is stored: own lists are as they were, slots beyond vs too -/
structure Kept (vs : List Nat) (ρ ρ' : Env) (σ σ' : St) : Prop where
  own : ∀ (i : Nat) (xs : List D), ρ'[i]? = some (.own xs) → ρ[i]? = some (.own xs) ∧ σ'[i]? = σ[i]?
  out : ∀ i, i ∉ vs → σ'[i]? = σ[i]?
  len : σ'.length = σ.length
theorem Kept.refl (vs : List Nat) (ρ : Env) (σ : St) : Kept vs ρ ρ σ σ := ⟨fun _ _ h => ⟨h, rfl⟩, fun _ _ => rfl, rfl⟩
theorem Kept.trans {vs : List Nat} {ρ ρ1 ρ2 : Env} {σ σ1 σ2 : St} (a : Kept vs ρ ρ1 σ σ1) (b : Kept vs ρ1 ρ2 σ1 σ2) : Kept vs ρ ρ2 σ σ2 :=
  ⟨fun i xs h => let ⟨h1, h2⟩ := b.own i xs h; let ⟨h3, h4⟩ := a.own i xs h1; ⟨h3, h2.trans h4⟩, fun i h => (b.out i h).trans (a.out i h), b.len.trans a.len⟩
theorem Kept.set {vs : List Nat} {ρ : Env} {σ : St} {i : Nat} {d : D} {v : V} (hi : i ∈ vs) : Kept vs ρ (ρ.set i (.va d)) σ (σ.set i (some v)) where
  own := fun j xs h => by
    by_cases e : i = j
    · subst e
      have hl : i < ρ.length := by
        have := (List.getElem?_eq_some_iff.mp h).1
        rwa [List.length_set] at this
      rw [List.getElem?_set_self hl] at h
      cases h
    · rw [List.getElem?_set_ne e] at h ⊢
      exact ⟨h, rfl⟩
  out := fun j h => List.getElem?_set_ne fun e => h (by rw [← e]; exact hi)
  len := List.length_set
theorem wipe_kept {vs : List Nat} {σ σ' : St} (h : ∀ i, i ∉ vs → σ'[i]? = σ[i]?) (hl : σ'.length = σ.length) : L2.wipe σ' vs = L2.wipe σ vs := by
  apply List.ext_getElem?
  intro i
  have q : ∀ (σ : St) (vs : List Nat), (L2.wipe σ vs)[i]? = if i ∈ vs ∧ i < σ.length then some none else σ[i]? := fun σ vs => by
    induction vs with
    | nil => rw [if_neg (fun z => by cases z.1)]; rfl
    | cons v vs ih =>
      show ((L2.wipe σ vs).set v none)[i]? = _
      by_cases e : v = i
      · subst e
        by_cases hi : v < σ.length
        · rw [List.getElem?_set_self (by rw [wipe_length]; exact hi), if_pos ⟨List.mem_cons_self, hi⟩]
        · rw [List.getElem?_eq_none (by rw [List.length_set, wipe_length]; omega), if_neg (fun z => hi z.2), List.getElem?_eq_none (by omega)]
      · rw [List.getElem?_set_ne e, ih]
        by_cases hm : i ∈ vs ∧ i < σ.length
        · rw [if_pos hm, if_pos ⟨List.mem_cons_of_mem _ hm.1, hm.2⟩]
        · rw [if_neg hm, if_neg fun z => hm ⟨(List.mem_cons.mp z.1).resolve_left fun z => e z.symm, z.2⟩]
  rw [q, q, hl]
  by_cases hm : i ∈ vs ∧ i < σ.length
  · rw [if_pos hm, if_pos hm]
  · rw [if_neg hm, if_neg hm]
    by_cases h1 : i ∈ vs
    · have : ¬ i < σ.length := fun z => hm ⟨h1, z⟩
      rw [List.getElem?_eq_none (by omega), List.getElem?_eq_none (by omega)]
    · exact h i h1
def tG (K : PySem.W.Frag) (vs : List Nat) (gf : GF) : TG := fun v σ H Q => ∃ ρ cs m G d, Wf K m G H cs ∧ EnvR K m G H ρ σ ∧ Rel K m G d v ∧
  Post K m G H (gf d ρ cs) (fun ρ' _ m' G' H' => ∀ σ', EnvR K m' G' H' ρ' σ' → Kept vs ρ ρ' σ σ' → Q σ' H')
def tGs (K : PySem.W.Frag) (vs : List Nat) (gs : List GF) : TGs := fun us σ H Q => ∃ ρ cs m G ds, Wf K m G H cs ∧ EnvR K m G H ρ σ ∧ Rels K m G ds us ∧
  Post K m G H (gTupL gs ds ρ cs) (fun ρ' _ m' G' H' => ∀ σ', EnvR K m' G' H' ρ' σ' → Kept vs ρ ρ' σ σ' → Q σ' H')
theorem _root_.L2.PG.imp {X : Cx} {e : Expr} {t t' : TG} (h : PG X e t) (k : ∀ v σ H Q, t' v σ H Q → t v σ H Q) : PG X e t' := ⟨fun pins s σ H v u Q I r q => h.run pins s σ H v u Q I r (k v σ H Q q)⟩
theorem _root_.L2.PGs.imp {X : Cx} {es : List Expr} {t t' : TGs} (h : PGs X es t) (k : ∀ v σ H Q, t' v σ H Q → t v σ H Q) : PGs X es t' := ⟨fun pins s σ H v u Q I r q => h.run pins s σ H v u Q I r (k v σ H Q q)⟩
/-- a target: its slots are among vs -/
def SG (S : SCtx) (T : Tab) (e : Expr) (vs : List Nat) (gf : GF) : Prop := ∀ X, Good S T X → PG X e (tG X.K vs gf)
def plainT : Expr → Bool
  | .Name _ _ => true
  | .Tuple _ _ _ => true
  | _ => false
structure SGs (S : SCtx) (T : Tab) (es : List Expr) (vs : List Nat) (gs : List GF) : Prop where
  run : ∀ X, Good S T X → PGs X es (tGs X.K vs gs)
  pl : es.all plainT = true
  len : gs.length = es.length
theorem assign_cons {e : Expr} (h : plainT e = true) (es : List Expr) (env : PySem.Env) : assignEach (e :: es) env = (false, assign e env) :: assignEach es env := by
  cases e <;> first | rfl | cases h
theorem assign_all : ∀ {es : List Expr} (h : es.all plainT = true) (env : PySem.Env), (assignEach es env).length = es.length ∧ (assignEach es env).findIdx? (·.1) = none
  | [], _, _ => ⟨rfl, rfl⟩
  | e :: es, h, env => by
    rw [List.all_cons, Bool.and_eq_true] at h
    obtain ⟨h1, h2⟩ := assign_all h.2 env
    rw [assign_cons h.1]
    refine ⟨by rw [List.length_cons, List.length_cons, h1], ?_⟩
    rw [List.findIdx?_cons, h2]
    rfl
section
variable {S : SCtx} {T : Tab} {e a b c : Expr} {es : List Expr} {pos p : Pos} {f fa fb fc : EF} {fs : AF} {t u : TF} {vs : List Nat} {gf : GF} {gs : List GF}
theorem sg_name (i : Nat) {x : Str} (h : locB S i x = true := by decide +kernel) (hi : i ∈ vs := by decide) : SG S T (.Name x pos) vs (RP.gName i) := fun X g => by
  unfold locB at h
  simp only [Bool.and_eq_true, Bool.or_eq_true, decide_eq_true_eq] at h
  obtain ⟨h1, h2⟩ := h
  have hl : L2.Loc X.env.scope x := by
    unfold L2.Loc
    rw [g.sc]
    exact h2.elim .inl fun h => .inr h.1
  refine (pg_name (i := i) g.nd (by rw [g.N]; exact h1) hl (h2.elim (fun h => .inr (by rw [g.sc]; exact h)) fun h => .inl (g.fnc x h.2))).imp fun v σ H Q ⟨ρ, cs, m, G, d, W, E, r, F⟩ => ?_
  exact Post.pure W F _ (E.set r i) (Kept.set hi)
theorem sgs_nil : SGs S T [] vs [] := ⟨fun X g => pgs_nil.imp fun us σ H Q ⟨ρ, cs, m, G, ds, W, E, r, F⟩ => by
  cases r with
  | nil => exact ⟨rfl, Post.pure W F σ E (Kept.refl vs ρ σ)⟩
  | cons _ _ => exact F.elim, rfl, rfl⟩
theorem sgs_cons (h : SG S T e vs gf) (hs : SGs S T es vs gs) (hp : plainT e = true := by rfl) : SGs S T (e :: es) vs (gf :: gs) := ⟨fun X g => (pgs_cons (h X g) (hs.run X g) (by rw [assign_cons hp]; rfl)).imp fun us σ H Q ⟨ρ, cs, m, G, ds, W, E, r, F⟩ => by
  cases r with
  | nil => exact F.elim
  | @cons d v ds vs' r rs =>
    refine ⟨_, _, rfl, ρ, cs, m, G, d, W, E, r, ?_⟩
    have F0 : Post X.K m G H ((gf d ρ >>= fun ρ' => gTupL gs ds ρ') cs) _ := F
    refine F0.bind.imp fun ρ1 cs1 m1 G1 H1 x1 W1 F1 σ1 E1 k1 => ?_
    exact ⟨ρ1, cs1, m1, G1, ds, W1, E1, Rels.mono x1.pre x1.frz rs, F1.imp fun ρ2 cs2 m2 G2 H2 x2 W2 F2 σ2 E2 k2 => F2 σ2 E2 (k1.trans k2)⟩,
  by rw [List.all_cons, hp, hs.pl]; rfl, by rw [List.length_cons, List.length_cons, hs.len]⟩
theorem gTupL_len : ∀ {gs : List GF} {ds : List D} {ρ ρ' : Env} {cs cs' : Cells}, gTupL gs ds ρ cs = .ok ρ' cs' → ds.length = gs.length
  | [], [], _, _, _, _, _ => rfl
  | [], _ :: _, _, _, _, _, h => by cases h
  | _ :: _, [], _, _, _, _, h => by cases h
  | g :: gs, d :: ds, ρ, ρ', cs, cs', h => by
    have h : (g d ρ >>= fun ρ' => gTupL gs ds ρ') cs = .ok ρ' cs' := h
    rw [M.bind_eq] at h
    cases e : g d ρ cs with
    | ok ρ1 cs1 =>
      rw [e] at h
      rw [List.length_cons, List.length_cons, gTupL_len h]
    | exc _ _ => rw [e] at h; cases h
    | bad => rw [e] at h; cases h
theorem sg_tup {k : Nat} (h : SGs S T es vs gs) : SG S T (.Tuple es k pos) vs (RP.gTup gs) := fun X g => by
  obtain ⟨a1, a2⟩ := assign_all h.pl X.env
  refine (pg_tup (n := es.length) g.calm (h.run X g) a1 a2).imp fun v σ H Q ⟨ρ, cs, m, G, d, W, E, r, F⟩ => ?_
  cases d with
  | tup ds =>
    obtain ⟨a', ws, rfl, h1, h1g, rr⟩ := RelB.tup W (.inl r)
    have F0 : Post X.K m G H (gTupL gs ds ρ cs) _ := F
    refine ⟨a', ws, rfl, h1, ?_, ρ, cs, m, G, ds, W, E, rr, F0⟩
    cases e : gTupL gs ds ρ cs with
    | ok ρ' cs' => rw [← rr.length, gTupL_len e, h.len]
    | exc _ _ => rw [e] at F0; exact F0.elim
    | bad => rw [e] at F0; exact F0.elim
  | _ => exact F.elim
end

/-! ### what is walked -/
/-- J hands out ds, as long as L stands -/
def Walk (K : PySem.W.Frag) (J : It) (ds : List D) (L : List Addr → Hp → Hp → Prop) : Prop := ∀ (m : List Addr) (G H : Hp) (cs : Cells) (i : Nat), L m G H → Wf K m G H cs →
  (i < ds.length → J.go i H) ∧ (i = ds.length → J.stop i H) ∧ ∀ x H', J.yld i H x H' → ∀ d, ds[i]? = some d → ∃ G', Ext m G H m G' H' ∧ Wf K m G' H' cs ∧ Rel K m G' d x
theorem walk_list {K : PySem.W.Frag} {a : Addr} {vs : List V} {ds : List D} {L : List Addr → Hp → Hp → Prop} (h : ∀ m G H cs, L m G H → Wf K m G H cs → SqL K H a vs ∧ Rels K m G ds vs) : Walk K (Itl K a) ds L := fun m G H cs i l W => by
  obtain ⟨h1, h2⟩ := h m G H cs l W
  refine ⟨fun hi => ?_, fun hi => ⟨vs, h1, by rw [← h2.length]; omega⟩, fun x H' y d hd => ?_⟩
  · have hi' : i < vs.length := by rw [← h2.length]; exact hi
    exact ⟨vs, vs[i], h1, List.getElem?_eq_getElem hi'⟩
  · obtain ⟨rfl, y⟩ := y
    obtain ⟨v, hv, rv⟩ := h2.get' hd
    have := y vs h1
    rw [hv] at this
    cases this
    exact ⟨G, Ext.refl m G H', W, rv⟩
theorem walk_tup {K : PySem.W.Frag} {a : Addr} {vs : List V} {ds : List D} {L : List Addr → Hp → Hp → Prop} (h : ∀ m G H cs, L m G H → Wf K m G H cs → SqT K H a vs ∧ Rels K m G ds vs) : Walk K (Itt K a) ds L := fun m G H cs i l W => by
  obtain ⟨h1, h2⟩ := h m G H cs l W
  refine ⟨fun hi => ?_, fun hi => ⟨vs, h1, by rw [← h2.length]; omega⟩, fun x H' y d hd => ?_⟩
  · have hi' : i < vs.length := by rw [← h2.length]; exact hi
    exact ⟨vs, vs[i], h1, List.getElem?_eq_getElem hi'⟩
  · obtain ⟨rfl, y⟩ := y
    obtain ⟨v, hv, rv⟩ := h2.get' hd
    have := y vs h1
    rw [hv] at this
    cases this
    exact ⟨G, Ext.refl m G H', W, rv⟩
theorem walk_str {K : PySem.W.Frag} {x : Str} {L : List Addr → Hp → Hp → Prop} (ok : okS x) : Walk K (Its x) (x.cps.toList.map fun c => D.str ⟨#[c]⟩) L := fun m G H cs i l W => by
  refine ⟨fun hi => ?_, fun hi => ?_, fun v H' y d hd => ?_⟩
  · rw [List.length_map, Array.length_toList] at hi; exact hi
  · rw [List.length_map, Array.length_toList] at hi; exact Nat.le_of_eq hi.symm
  · obtain ⟨rfl, c, hc, rfl⟩ := y
    rw [List.getElem?_map, Array.getElem?_toList, hc] at hd
    cases hd
    refine ⟨G, Ext.refl m G H', W, .str ⟨?_, by rw [sizeLine_eq]; show 1 ≤ _; decide⟩⟩
    have h1 := ok.1
    unfold PyData.strOk at h1 ⊢
    rw [← Array.all_toList, List.all_eq_true] at h1
    have := h1 c (List.mem_of_getElem? (by rw [Array.getElem?_toList]; exact hc))
    simpa using this
theorem walk_range {K : PySem.W.Frag} {lo : Int} {n : Nat} {L : List Addr → Hp → Hp → Prop} : Walk K (Itr lo n) (rangeL lo n) L := fun m G H cs i l W => by
  have hl : (rangeL lo n).length = n := by unfold rangeL; rw [List.length_map, List.length_range]
  refine ⟨fun hi => by rw [hl] at hi; exact hi, fun hi => by rw [hl] at hi; exact Nat.le_of_eq hi.symm, fun v H' y d hd => ?_⟩
  obtain ⟨rfl, rfl⟩ := y
  unfold rangeL at hd
  rw [List.getElem?_map] at hd
  cases e : (List.range n)[i]? with
  | none => rw [e] at hd; cases hd
  | some j =>
    rw [e] at hd
    obtain ⟨h1, h2⟩ := List.getElem?_eq_some_iff.mp e
    rw [List.getElem_range] at h2
    subst h2
    cases hd
    exact ⟨G, Ext.refl m G H', W, .int _⟩
/-- fixed things stand -/
def LF (m1 : List Addr) (G1 : Hp) : List Addr → Hp → Hp → Prop := fun m G _ => Pre m1 m ∧ Same G1 G
/-- only evaluation since -/
def LE (m1 : List Addr) (G1 H1 : Hp) : List Addr → Hp → Hp → Prop := fun m G H => Ext m1 G1 H1 m G H
theorem _root_.L2.PI.imp {X : Cx} {tg e : Expr} {t t' : TI} (h : PI X tg e t) (k : ∀ σ H Q, t' σ H Q → t σ H Q) : PI X tg e t' := ⟨fun pins s σ H Q I q => h.run pins s σ H Q I (k σ H Q q)⟩
def tI (K : PySem.W.Frag) (f : AF) : TI := fun σ H R => ∃ ρ cs m G, Wf K m G H cs ∧ EnvR K m G H ρ σ ∧ Post K m G H (f ρ cs) (fun ds _ m1 G1 H1 => ds.length ≤ LIM → ∀ J, Walk K J ds (LF m1 G1) → R J H1)
def tIC (K : PySem.W.Frag) (f : AF) : TI := fun σ H R => ∃ ρ cs m G, Wf K m G H cs ∧ EnvR K m G H ρ σ ∧ Post K m G H (f ρ cs) (fun ds _ m1 G1 H1 => ds.length ≤ LIM → ∀ J, Walk K J ds (LE m1 G1 H1) → R J H1)
def SI (S : SCtx) (T : Tab) (tg e : Expr) (f : AF) : Prop := ∀ X, Good S T X → PI X tg e (tI X.K f)
def SIC (S : SCtx) (T : Tab) (tg e : Expr) (f : AF) : Prop := ∀ X, Good S T X → PI X tg e (tIC X.K f)

section
variable {S : SCtx} {T : Tab} {tg e a b c : Expr} {es : List Expr} {pos p : Pos} {f fa fb fc : EF} {fs : AF} {t u : TF} {vs : List Nat} {gf : GF} {gs : List GF}
theorem Walk.mono {K : PySem.W.Frag} {J : It} {ds : List D} {L L' : List Addr → Hp → Hp → Prop} (h : Walk K J ds L) (k : ∀ m G H, L' m G H → L m G H) : Walk K J ds L' := fun m G H cs i l W => h m G H cs i (k m G H l) W
theorem SI.toC (h : SI S T tg e fs) : SIC S T tg e fs := fun X g => (h X g).imp fun σ H R ⟨ρ, cs, m, G, W, E, F⟩ => ⟨ρ, cs, m, G, W, E, F.imp fun ds cs1 m1 G1 H1 x1 W1 F1 hl J w => F1 hl J (w.mono fun _ _ _ l => ⟨l.pre, l.frz⟩)⟩
/-- a list, a tuple, a text: by what it is -/
theorem pi_seqs {X : Cx} {tg l : Expr} {tl : TE} (hl : PE X l tl) : PI X tg l (fun σ H R => tl σ H fun x H1 => (∃ a xs, x = .ref a ∧ SqL X.K H1 a xs ∧ (xs.length ≤ sizeLine → R (Itl X.K a) H1)) ∨ (∃ a xs, x = .ref a ∧ SqT X.K H1 a xs ∧ (xs.length ≤ sizeLine → R (Itt X.K a) H1)) ∨ (∃ z, x = .str z ∧ R (Its z) H1)) := by
  refine ⟨fun pins s σ H R I h => ?_⟩
  refine thn (hl.run pins s σ H _ I h) fun v s1 ⟨x, H1, I1, r1, q1⟩ => ?_
  rcases q1 with ⟨a, xs, e, hq, q⟩ | ⟨a, xs, e, hq, q⟩ | ⟨z, e, q⟩
  · subst e
    cases r1
    obtain ⟨its, rv, p, hz⟩ := I1.list hq
    refine wpAny_pyIter_list p.isList ?_
    refine ⟨s1.heap.objs.size, [s1.heap.objs.size], _, _, H1, rfl, I1.kept (t' := s1.toks) fun b o e => Heap.get?_push_of_some _ e, turn_list a _, ⟨_, Heap.get?_push_size _ rfl, rfl, rfl⟩, fun b hb => ?_, q hz⟩
    have e : b = s1.heap.objs.size := by simpa using hb
    subst e
    exact I1.fpOk (Nat.le_refl _) (I1.hok.fresh (Nat.le_refl _))
  · subst e
    cases r1
    obtain ⟨its, rv, p, hz⟩ := I1.tuple hq
    refine wpAny_pyIter_tuple (show s1.heap.IsTuple a its.toArray from p) ?_
    refine ⟨s1.heap.objs.size, [s1.heap.objs.size], _, _, H1, rfl, I1.kept (t' := s1.toks) fun b o e => Heap.get?_push_of_some _ e, turn_tuple a _, ⟨_, Heap.get?_push_size _ rfl, rfl, rfl⟩, fun b hb => ?_, q hz⟩
    have e : b = s1.heap.objs.size := by simpa using hb
    subst e
    exact I1.fpOk (Nat.le_refl _) (I1.hok.fresh (Nat.le_refl _))
  · subst e
    obtain ⟨t, rfl⟩ := r1
    cases ha : z.cps.all (· < 128)
    · exact wpAny_pyIter_wide ha (pi_one (tk := s1.toks) I1 _ (turn_str _ z t "str_iterator" (.inr rfl)) ⟨_, Heap.get?_push_size _ rfl, rfl, rfl⟩ q)
    · exact wpAny_pyIter_ascii ha (pi_one (tk := s1.toks) I1 _ (turn_str _ z t "str_ascii_iterator" (.inl rfl)) ⟨_, Heap.get?_push_size _ rfl, rfl, rfl⟩ q)

theorem relB_str {K : PySem.W.Frag} {m : List Addr} {G H : Hp} {s : Str} {v : V} (r : RelB K m G H (.str s) v) : v = .str s ∧ okS s := r.str
theorem str_len {s : Str} (h : okS s) : (s.cps.toList.map fun c => D.str ⟨#[c]⟩).length ≤ LIM := by
  rw [List.length_map, Array.length_toList, LIM_eq]; exact h.2
theorem si_any (h : SE S T a fa) : SI S T tg a (iAny fa) := fun X g => (pi_seqs (h X g)).imp fun σ H R ⟨ρ, cs, m, G, W, E, F⟩ => by
  refine ⟨ρ, cs, m, G, W, E, F.bind.imp fun d cs1 m1 G1 H1 x1 W1 F1 v rv => ?_⟩
  cases d with
  | str s =>
    obtain ⟨rfl, ok⟩ := RelB.str (H := H1) (.inl rv)
    exact .inr (.inr ⟨s, rfl, Post.pure W1 F1 (str_len ok) _ (walk_str ok)⟩)
  | lst ds =>
    cases rv with
    | @lst a' vs' _ hl rr =>
      refine .inl ⟨a', vs', rfl, SqL.of (W1.sub _ _ hl), fun hz => Post.pure W1 F1 (by rw [rr.length, LIM_eq]; exact hz) _ (walk_list fun m G H cs l W => ⟨SqL.of (W.sub _ _ (l.2 _ _ hl)), Rels.mono l.1 l.2 rr⟩)⟩
  | tup ds =>
    cases rv with
    | @tup a' vs' _ hl rr =>
      refine .inr (.inl ⟨a', vs', rfl, Same.seqT W1.sub hl, fun hz => Post.pure W1 F1 (by rw [rr.length, LIM_eq]; exact hz) _ (walk_tup fun m G H cs l W => ⟨Same.seqT W.sub (Same.seqT l.2 hl), Rels.mono l.1 l.2 rr⟩)⟩)
  | _ => exact F1.elim
/-- .. where it is only evaluated meanwhile: a list of the frame's own too -/
theorem sic_any (h : SO S T a fa) : SIC S T tg a (iAny fa) := fun X g => (pi_seqs (h X g)).imp fun σ H R ⟨ρ, cs, m, G, W, E, F⟩ => by
  refine ⟨ρ, cs, m, G, W, E, F.bind.imp fun d cs1 m1 G1 H1 x1 W1 F1 v rv => ?_⟩
  cases d with
  | str s =>
    obtain ⟨rfl, ok⟩ := rv.str
    exact .inr (.inr ⟨s, rfl, Post.pure W1 F1 (str_len ok) _ (walk_str ok)⟩)
  | lst ds =>
    rcases rv with rv | ⟨a', vs', ds', e, rfl, h1, h2, h3, rr⟩
    · cases rv with
      | @lst a' vs' _ hl rr =>
        refine .inl ⟨a', vs', rfl, SqL.of (W1.sub _ _ hl), fun hz => Post.pure W1 F1 (by rw [rr.length, LIM_eq]; exact hz) _ (walk_list fun m G H cs l W => ⟨SqL.of (W.sub _ _ (l.frz _ _ hl)), Rels.mono l.pre l.frz rr⟩)⟩
    · cases e
      refine .inl ⟨a', vs', rfl, SqL.of h1, fun hz => Post.pure W1 F1 (by rw [rr.length, LIM_eq]; exact hz) _ (walk_list fun m G H cs l W => ⟨SqL.of (l.keep _ _ h1 h3), Rels.mono l.pre l.frz rr⟩)⟩
  | tup ds =>
    obtain ⟨a', vs', rfl, h1, hl, rr⟩ := rv.tup W1
    refine .inr (.inl ⟨a', vs', rfl, h1, fun hz => Post.pure W1 F1 (by rw [rr.length, LIM_eq]; exact hz) _ (walk_tup fun m G H cs l W => ⟨Same.seqT W.sub (Same.seqT l.frz hl), Rels.mono l.pre l.frz rr⟩)⟩)
  | _ => exact F1.elim
theorem rangeL_len (lo : Int) (n : Nat) : (rangeL lo n).length = n := by unfold rangeL; rw [List.length_map, List.length_range]
theorem lim_big : 1000000 ≤ LIM := by decide
theorem mid_of {i : Int} (h : mid i = true) : -1000000 ≤ i ∧ i ≤ 1000000 := by
  unfold mid at h
  rw [Bool.and_eq_true, decide_eq_true_eq, decide_eq_true_eq] at h
  exact h
theorem RelsB.three {K : PySem.W.Frag} {m : List Addr} {G H : Hp} {d e f : D} {vs : List V} (r : RelsB K m G H [d, e, f] vs) : ∃ v u w, vs = [v, u, w] ∧ RelB K m G H d v ∧ RelB K m G H e u ∧ RelB K m G H f w := by
  cases r with
  | cons h t =>
    cases t with
    | cons h2 t2 =>
      cases t2 with
      | cons h3 t3 => cases t3; exact ⟨_, _, _, rfl, h, h2, h3⟩
theorem si_range1 (h : SO S T a fa) (hg : glB S "range" = true := by decide +kernel) (hn : noStar a = true := by rfl) : SI S T tg (.Call (.Name "range" p) [a] [] pos) (lCall range1D (aCons fa aNil)) := fun X g => by
  obtain ⟨q1, q2, q3⟩ := glG g hg
  refine (pi_range1 q1 (g.blt "range" (by decide +kernel)) ((sb_cons h sb_nil hn).run X g) (by rw [star_cons hn]; rfl)).imp fun σ H R ⟨ρ, cs, m, G, W, E, F⟩ => ?_
  refine ⟨ρ, cs, m, G, W, E, F.bind.imp fun xs cs1 m1 G1 H1 x1 W1 F1 vs rvs => ?_⟩
  unfold range1D at F1
  split at F1
  · rename_i j
    obtain ⟨v, rfl, rv⟩ := rvs.one
    obtain ⟨hj, F2⟩ := F1.need
    obtain ⟨h0, hj⟩ := mid_of hj
    have hb := lim_big
    exact ⟨j, by rw [rv.int], by omega, by omega, Post.pure W1 F2 (by rw [rangeL_len]; omega) _ walk_range⟩
  · exact F1.elim
theorem lim_big2 : 2000000 ≤ LIM := by decide
theorem si_range2 (h : SO S T a fa) (h2 : SO S T b fb) (hg : glB S "range" = true := by decide +kernel) (hn : noStar a = true := by rfl) (hn2 : noStar b = true := by rfl) : SI S T tg (.Call (.Name "range" p) [a, b] [] pos) (lCall range2D (aCons fa (aCons fb aNil))) := fun X g => by
  obtain ⟨q1, q2, q3⟩ := glG g hg
  refine (pi_range2 q1 (g.blt "range" (by decide +kernel)) ((sb_cons h (sb_cons h2 sb_nil hn2) hn).run X g) (by rw [star_cons hn, star_cons hn2]; rfl) (by rw [star_cons hn2]; rfl)).imp fun σ H R ⟨ρ, cs, m, G, W, E, F⟩ => ?_
  refine ⟨ρ, cs, m, G, W, E, F.bind.imp fun xs cs1 m1 G1 H1 x1 W1 F1 vs rvs => ?_⟩
  unfold range2D at F1
  split at F1
  · rename_i i j
    obtain ⟨v, u, rfl, rv, ru⟩ := rvs.two
    obtain ⟨hj, F2⟩ := F1.need
    rw [Bool.and_eq_true] at hj
    have h1 := mid_of hj.1
    have h2 := mid_of hj.2
    have hb := lim_big2
    exact ⟨i, j, by rw [rv.int, ru.int], ⟨by omega, by omega, by omega, by omega⟩, Post.pure W1 F2 (by rw [rangeL_len]; omega) _ walk_range⟩
  · exact F1.elim
theorem walk_down {K : PySem.W.Frag} {lo : Int} {n : Nat} {L : List Addr → Hp → Hp → Prop} : Walk K (Itc lo (-1) n) (rangeD lo n) L := fun m G H cs i l W => by
  have hl : (rangeD lo n).length = n := by unfold rangeD; rw [List.length_map, List.length_range]
  refine ⟨fun hi => by rw [hl] at hi; exact hi, fun hi => by rw [hl] at hi; exact Nat.le_of_eq hi.symm, fun v H' y d hd => ?_⟩
  obtain ⟨rfl, rfl⟩ := y
  unfold rangeD at hd
  rw [List.getElem?_map] at hd
  cases e : (List.range n)[i]? with
  | none => rw [e] at hd; cases hd
  | some j =>
    rw [e] at hd
    obtain ⟨h1, h2⟩ := List.getElem?_eq_some_iff.mp e
    rw [List.getElem_range] at h2
    subst h2
    cases hd
    exact ⟨G, Ext.refl m G H', W, .int _⟩
theorem si_range3 (h : SO S T a fa) (h2 : SO S T b fb) (h3 : SO S T c fc) (hg : glB S "range" = true := by decide +kernel) (hn : noStar a = true := by rfl) (hn2 : noStar b = true := by rfl) (hn3 : noStar c = true := by rfl) : SI S T tg (.Call (.Name "range" p) [a, b, c] [] pos) (lCall range3D (aCons fa (aCons fb (aCons fc aNil)))) := fun X g => by
  obtain ⟨q1, q2, q3⟩ := glG g hg
  refine (pi_range3 q1 (g.blt "range" (by decide +kernel)) ((sb_cons h (sb_cons h2 (sb_cons h3 sb_nil hn3) hn2) hn).run X g) (star_cons hn _ _) (star_any (by rw [List.all_cons, hn2, List.all_cons, hn3]; rfl) _ _)).imp fun σ H R ⟨ρ, cs, m, G, W, E, F⟩ => ?_
  refine ⟨ρ, cs, m, G, W, E, F.bind.imp fun xs cs1 m1 G1 H1 x1 W1 F1 vs rvs => ?_⟩
  unfold range3D at F1
  split at F1
  · rename_i i j c
    obtain ⟨v, u, w', rfl, rv, ru, rw'⟩ := rvs.three
    obtain ⟨hj, F2⟩ := F1.need
    rw [Bool.and_eq_true, Bool.and_eq_true, decide_eq_true_eq] at hj
    obtain ⟨⟨k1, k2⟩, rfl⟩ := hj
    have h1 := mid_of k1
    have h2 := mid_of k2
    have hb := lim_big2
    have hl : (rangeD i (i - j).toNat).length = (i - j).toNat := by unfold rangeD; rw [List.length_map, List.length_range]
    exact ⟨i, j, -1, _, by rw [rv.int, ru.int, rw'.int], RgC.neg (by omega) (by omega) (by omega) (by omega), Post.pure W1 F2 (by rw [hl]; omega) _ walk_down⟩
  · exact F1.elim
end
end RP
end

section
set_option Elab.async false
set_option linter.all false
set_option maxRecDepth 100000
set_option autoImplicit false
/-! RpS8: list comprehensions. -/
namespace RP
open PySem PySem.Spec PyProof.Rows L2

section
variable {α β : Type} {K : PySem.W.Frag} {m : List Addr} {G H : Hp} {cs : Cells}
theorem Post.bindB {x : M α} {f : α → M β} {P : β → Cells → List Addr → Hp → Hp → Prop} (h : Post K m G H ((x >>= f) cs) P) (m1 : List Addr) (G1 H1 : Hp) : Post K m1 G1 H1 (x cs) (fun a cs1 _ _ _ => Post K m G H (f a cs1) P) := by
  rw [M.bind_eq] at h
  cases e : x cs with
  | ok a cs1 =>
    rw [e] at h
    exact fun m2 G2 H2 x2 W2 => h
  | exc c cs1 => rw [e] at h; exact h.elim
  | bad => rw [e] at h; exact h.elim
end
theorem Ext.over {m m' : List Addr} {G H G' H' : Hp} {D : Addr} {o : HO} (x : Ext m G H m' G' H') (h : H D = none) : Ext m G H m' G' (upd H' D o) where
  pre := x.pre
  frz := x.frz
  keep := fun a u e n => by rw [upd_ne (ne_of_none e h)]; exact x.keep a u e n
  stay := fun a e => by
    have : a ≠ D := fun z => by subst z; exact e h
    rw [upd_ne this]; exact x.stay a e
  newG := x.newG
  newM := x.newM
theorem Wf.over {K : PySem.W.Frag} {m : List Addr} {G H : Hp} {cs : Cells} {D : Addr} {o : HO} (W : Wf K m G H cs) (hG : G D = none) (hm : D ∉ m) : Wf K m G (upd H D o) cs where
  sub := fun a u h => by rw [upd_ne (ne_of_none h hG)]; exact W.sub a u h
  len := W.len
  cell := fun n ds a h1 h2 => by
    obtain ⟨vs, e, r⟩ := W.cell n ds a h1 h2
    have : a ≠ D := fun z => by subst z; exact hm (List.mem_of_getElem? h2)
    exact ⟨vs, by rw [upd_ne this]; exact e, r⟩
  mG := W.mG
  nd := W.nd
theorem wipe_get {σ : St} {i : Nat} : ∀ vs : List Nat, (L2.wipe σ vs)[i]? = if i ∈ vs ∧ i < σ.length then some none else σ[i]?
  | [] => by rw [if_neg (fun z => by cases z.1)]; rfl
  | v :: vs => by
    have ih := wipe_get (σ := σ) (i := i) vs
    show ((L2.wipe σ vs).set v none)[i]? = _
    by_cases e : v = i
    · subst e
      by_cases hi : v < σ.length
      · rw [List.getElem?_set_self (by rw [wipe_length]; exact hi), if_pos ⟨List.mem_cons_self, hi⟩]
      · rw [List.getElem?_eq_none (by rw [List.length_set, wipe_length]; omega), if_neg (fun z => hi z.2), List.getElem?_eq_none (by omega)]
    · rw [List.getElem?_set_ne e, ih]
      by_cases hm : i ∈ vs ∧ i < σ.length
      · rw [if_pos hm, if_pos ⟨List.mem_cons_of_mem _ hm.1, hm.2⟩]
      · rw [if_neg hm, if_neg fun z => hm ⟨(List.mem_cons.mp z.1).resolve_left fun z => e z.symm, z.2⟩]
theorem wipe_wipe (σ : St) (vs : List Nat) : L2.wipe (L2.wipe σ vs) vs = L2.wipe σ vs := by
  apply List.ext_getElem?
  intro i
  rw [wipe_get, wipe_get, wipe_length]
  by_cases hm : i ∈ vs ∧ i < σ.length
  · rw [if_pos hm, if_pos hm]
  · rw [if_neg hm, if_neg hm]

/-- the names of a comprehension's block -/
def SCtx.blk (S : SCtx) (scope : Scope) : SCtx := ⟨S.N, relS scope S.sc, fun x => scope.names.lookup x == some .cell⟩
theorem Good.blk {S : SCtx} {T : Tab} {X : Cx} (g : Good S T X) (s : Shared) (H : Hp) (scope : Scope) (C : Addr) (cl : List (Str × Addr)) (fp : List Addr) : Good (S.blk scope) T (X.blk s H scope (compEnvC scope cl C X.env) fp) where
  N := g.N
  sc := by
    show relS scope X.env.scope = relS scope S.sc
    rw [g.sc]
  nd := g.nd
  calm := g.calm
  xe := rfl
  hu := g.hu
  blt := g.blt
  gl := g.gl
  fn := fun i x c h => ⟨(g.fn i x c h).ex⟩
  fnc := fun x h => h
structure STs (S : SCtx) (T : Tab) (ifs : List Expr) (f : TF) : Prop where
  run : ∀ X, Good S T X → PTs X ifs (tT X.K f)
section
variable {S : SCtx} {T : Tab} {tg iter elt e a b c : Expr} {ifs es : List Expr} {pos p : Pos} {f fe fa fb fc : EF} {fi fs : AF} {ft t u : TF} {vs : List Nat} {gf : GF} {gs : List GF} {scope : Scope}
theorem sts_nil : STs S T [] RP.tYes := ⟨fun X g => ⟨fun pins s σ H Q I ⟨ρ, cs, m, G, W, E, F⟩ => pts_nil.run pins s σ H Q I (Post.pure W F)⟩⟩
theorem sts_one (h : ST S T c t) : STs S T [c] t := ⟨fun X g => pts_one (h X g)⟩
theorem comp_read {K : PySem.W.Frag} {σ : St} {H : Hp} {Q : VK} (h : tF K (cComp vs fi gf ft fe) σ H Q) : tLc (tIC K fi) (tG K vs gf) (tT K ft) (tE K fe) vs σ H Q := by
  obtain ⟨ρ, cs, m, G, W, E, F⟩ := h
  refine ⟨ρ, cs, m, G, W, E, F.bind.imp fun ds cs1 m1 G1 H1 x1 W1 F1 hl J w D hD => ?_⟩
  have E1 := E.ext x1
  have hD0 : H D = none := none_back x1 hD
  refine ⟨fun i n H' => n = ds.length - i ∧ i ≤ ds.length ∧ ∃ cs2 m2 G2 acc accV, Ext m1 G1 H1 m2 G2 H' ∧ Wf K m2 G2 H' cs2 ∧ H' D = some (.lst accV) ∧ G2 D = none ∧ D ∉ m2 ∧ Rels K m2 G2 acc accV ∧ acc.length ≤ i ∧
    Post K m1 G1 H1 (compL gf ft fe (RP.wipe ρ vs) (ds.drop i) cs2) (fun ys cs' m' G' H'' => ∀ a ws, H a = none → H'' a = some (.lst ws) → G' a = none → a ∉ m' → Rels K m' G' (acc ++ ys) ws → Q (.ref a) H''),
    ⟨ds.length, rfl, Nat.zero_le _, cs1, m1, G1, [], [], Ext.own hD, W1.own hD, upd_same, W1.noG hD, W1.noM hD, .nil, Nat.le_refl _, F1⟩, ?_⟩
  rintro i n H2 ⟨rfl, hi, cs2, m2, G2, acc, accV, x2, W2, h1, h2, h3, r, hlen, F2⟩
  obtain ⟨wgo, wstop, wyld⟩ := w m2 G2 H2 cs2 i x2 W2
  by_cases hlt : i < ds.length
  · refine .inr ⟨wgo hlt, fun H' => ∃ cs3 m3 G3 acc accV, Ext m1 G1 H1 m3 G3 H' ∧ Wf K m3 G3 H' cs3 ∧ H' D = some (.lst accV) ∧ G3 D = none ∧ D ∉ m3 ∧ Rels K m3 G3 acc accV ∧ acc.length ≤ i + 1 ∧
      Post K m1 G1 H1 (compL gf ft fe (RP.wipe ρ vs) (ds.drop (i + 1)) cs3) (fun ys cs' m' G' H'' => ∀ a ws, H a = none → H'' a = some (.lst ws) → G' a = none → a ∉ m' → Rels K m' G' (acc ++ ys) ws → Q (.ref a) H''),
      fun H' z => ⟨ds.length - (i + 1), by omega, rfl, hlt, z⟩, fun x H3 y => ?_⟩
    obtain ⟨G3, x3, W3, rx⟩ := wyld x H3 y ds[i] (List.getElem?_eq_getElem hlt)
    have ed : ds.drop i = ds[i] :: ds.drop (i + 1) := List.drop_eq_getElem_cons hlt
    rw [ed] at F2
    have F2 : Post K m1 G1 H1 ((gf ds[i] (RP.wipe ρ vs) >>= fun ρ1 => ft ρ1 >>= fun c => if c = true then fe ρ1 >>= fun y => compL gf ft fe (RP.wipe ρ vs) (ds.drop (i + 1)) >>= fun ys => pure (y :: ys) else compL gf ft fe (RP.wipe ρ vs) (ds.drop (i + 1))) cs2) _ := F2
    refine ⟨RP.wipe ρ vs, cs2, m2, G3, ds[i], W3, ((E1.ext x2).ext x3).wipe vs, rx, (F2.bindB m2 G3 H3).imp fun ρ1 cs4 m4 G4 H4 x4 W4 F4 σ' E4 k4 => ⟨?_, ?_⟩⟩
    · rw [wipe_kept k4.out k4.len, wipe_wipe]
    · refine ⟨ρ1, cs4, m4, G4, W4, E4, (F4.bindB m4 G4 H4).imp fun b cs5 m5 G5 H5 x5 W5 F5 => ?_⟩
      have xx : Ext m2 G2 H2 m5 G5 H5 := (x3.trans x4).trans x5
      have hne : H2 D ≠ none := by rw [h1]; exact fun z => nomatch z
      cases b with
      | true =>
        refine iteT ?_
        have F5 : Post K m1 G1 H1 ((fe ρ1 >>= fun y => compL gf ft fe (RP.wipe ρ vs) (ds.drop (i + 1)) >>= fun ys => pure (y :: ys)) cs5) _ := F5
        refine ⟨ρ1, cs5, m5, G5, W5, E4.ext x5, (F5.bindB m5 G5 H5).imp fun dy cs6 m6 G6 H6 x6 W6 F6 v rv => ?_⟩
        have xy := xx.trans x6
        have hd6 : H6 D = some (.lst accV) := xy.keep D _ h1 h3
        have hg6 : G6 D = none := xy.newG D hne h2
        have hm6 : D ∉ m6 := xy.newM D hne h3
        refine ⟨accV, hd6, ?_, cs6, m6, G6, acc ++ [dy], accV ++ [v], (x2.trans xy).over hD, W6.over hg6 hm6, upd_same, hg6, hm6, (Rels.mono xy.pre xy.frz r).append (.cons rv .nil), ?_, ?_⟩
        · rw [← r.length, ← LIM_eq]; omega
        · rw [List.length_append, List.length_singleton]; omega
        · refine (Post.map F6).imp fun ys cs7 m7 G7 H7 x7 W7 F7 a ws a1 a2 a3 a4 a5 => ?_
          rw [List.append_assoc] at a5
          exact F7 m7 G7 H7 x7 W7 a ws a1 a2 a3 a4 a5
      | false =>
        refine iteF ?_
        exact ⟨cs5, m5, G5, acc, accV, x2.trans xx, W5, xx.keep D _ h1 h3, xx.newG D hne h2, xx.newM D hne h3, Rels.mono xx.pre xx.frz r, by omega, F5⟩
  · have e : i = ds.length := by omega
    subst e
    refine .inl ⟨wstop rfl, ?_⟩
    rw [List.drop_length] at F2
    have F3 := F2 m2 G2 H2 x2 W2 D accV hD0 h1 h2 h3
    rw [List.append_nil] at F3
    exact F3 r
/-- a comprehension: a new list -/
theorem sfr_comp (own : List (Str × Nat)) (hi : SIC S T tg iter fi) (hg : SG (S.blk scope) T tg (own.map (·.2)) gf) (ht : STs (S.blk scope) T ifs ft) (he : SE (S.blk scope) T elt fe) (ok : blkC S.N S.sc scope own = true := by decide +kernel)
    (hs : ∀ env x, foldedSetIterable iter env x = pure x := by intro _ _; rfl) : SFr S T (.ListComp elt [⟨tg, iter, ifs, 0⟩] scope pos) (cComp (own.map (·.2)) fi gf ft fe) := fun X g =>
  (pe_lc (own := own) g.calm g.nd (hi X g) (blkOk_by (by rw [g.N, g.sc]; exact ok)) (fun s H C cl fp => hg _ (g.blk s H scope C cl fp)) (fun s H C cl fp => ht.run _ (g.blk s H scope C cl fp)) (fun s H C cl fp => he _ (g.blk s H scope C cl fp)) (hs X.env)).imp
    fun σ H Q h => comp_read h
end
end RP
end

section
set_option Elab.async false
set_option linter.all false
set_option maxRecDepth 100000
set_option autoImplicit false
/-! RpS9: statements. -/
namespace RP
open PySem PySem.Spec PyProof.Rows L2

structure EnvS (K : PySem.W.Frag) (m : List Addr) (G H H0 : Hp) (ρ : Env) (σ : St) : Prop where
  e : EnvR K m G H ρ σ
  fr : ∀ (i : Nat) (xs : List D), ρ[i]? = some (.own xs) → ∃ a, σ[i]? = some (some (.ref a)) ∧ H0 a = none
theorem EnvS.ext {K : PySem.W.Frag} {m m' : List Addr} {G H G' H' H0 : Hp} {ρ : Env} {σ : St} (e : EnvS K m G H H0 ρ σ) (x : Ext m G H m' G' H') : EnvS K m' G' H' H0 ρ σ := ⟨e.e.ext x, e.fr⟩
theorem EnvS.kept {K : PySem.W.Frag} {m m' : List Addr} {G H G' H' H0 : Hp} {ρ ρ' : Env} {σ σ' : St} {vs : List Nat} (e : EnvS K m G H H0 ρ σ) (e' : EnvR K m' G' H' ρ' σ') (k : Kept vs ρ ρ' σ σ') : EnvS K m' G' H' H0 ρ' σ' :=
  ⟨e', fun i xs h => by
    obtain ⟨h1, h2⟩ := k.own i xs h
    obtain ⟨a, e1, e2⟩ := e.fr i xs h1
    exact ⟨a, by rw [h2]; exact e1, e2⟩⟩
def FlP (K : PySem.W.Frag) (H0 : Hp) (Dn : Ends) (fl : Fl) (m : List Addr) (G H : Hp) : Prop := match fl with
  | .nx ρ => ∀ σ, EnvS K m G H H0 ρ σ → Dn.nx σ H
  | .bk ρ => ∀ σ, EnvS K m G H H0 ρ σ → Dn.bk σ H
  | .ct ρ => ∀ σ, EnvS K m G H H0 ρ σ → Dn.ct σ H
  | .rt d => ∀ v, Rel K m G d v → Dn.rt v H
def tS (K : PySem.W.Frag) (m0 : List Addr) (G0 H0 : Hp) (f : SF) : TS := fun Dn σ H => ∃ ρ cs m G, Ext m0 G0 H0 m G H ∧ Wf K m G H cs ∧ EnvS K m G H H0 ρ σ ∧ Post K m0 G0 H0 (f ρ cs) (fun fl _ m' G' H' => FlP K H0 Dn fl m' G' H')
def SS (S : SCtx) (T : Tab) (st : Stmt) (f : SF) : Prop := ∀ X, Good S T X → ∀ m0 G0 H0, PS X st (tS X.K m0 G0 H0 f)
def SSs (S : SCtx) (T : Tab) (sts : List Stmt) (f : SF) : Prop := ∀ X, Good S T X → ∀ m0 G0 H0, PSs X sts (tS X.K m0 G0 H0 f)

/-- from a statement's world to its expression's and back -/
theorem Post.now {α : Type} {K : PySem.W.Frag} {m0 m : List Addr} {G0 H0 G H : Hp} {a : α} {cs : Cells} {P : α → Cells → List Addr → Hp → Hp → Prop} (h : Post K m0 G0 H0 ((Pure.pure a : M α) cs) P) (x : Ext m0 G0 H0 m G H) (W : Wf K m G H cs) : P a cs m G H := h m G H x W
theorem EnvS.setX {K : PySem.W.Frag} {m m1 : List Addr} {G H G1 H1 H0 : Hp} {ρ : Env} {σ : St} {s : Sl} {v : V} (E : EnvS K m G H H0 ρ σ) (x : Ext m G H m1 G1 H1) (stay0 : ∀ a, H0 a ≠ none → H a ≠ none) (ne : s ≠ .no) (r : SlR K m1 G1 H1 s (some v))
    (fr : ∀ xs, s = .own xs → ∃ a, v = .ref a ∧ H a = none) (i : Nat) : EnvS K m1 G1 H1 H0 (ρ.set i s) (σ.set i (some v)) := by
  have E1 := E.ext x
  have q : ∀ {j : Nat} {u : Sl}, (ρ.set i s)[j]? = some u → (i = j ∧ u = s ∧ i < ρ.length) ∨ (i ≠ j ∧ ρ[j]? = some u) := fun {j u} h => by
    by_cases e : i = j
    · subst e
      have hi : i < ρ.length := by
        have := (List.getElem?_eq_some_iff.mp h).1
        rwa [List.length_set] at this
      rw [List.getElem?_set_self hi] at h
      exact .inl ⟨rfl, (Option.some.inj h).symm, hi⟩
    · rw [List.getElem?_set_ne e] at h
      exact .inr ⟨e, h⟩
  have far : ∀ {j : Nat} {xs : List D} {a : Addr}, ρ[j]? = some (.own xs) → H a = none → σ[j]? ≠ some (some (.ref a)) := fun {j xs a} h h0 z => by
    obtain ⟨ov, e1, b, ws, e2, e3, _⟩ := E.e.sl j _ h
    rw [e1, e2] at z
    cases z
    rw [h0] at e3
    cases e3
  refine ⟨⟨by rw [List.length_set, List.length_set]; exact E.e.len, fun j u h => ?_, fun j k xs ys hne h1 h2 => ?_⟩, fun j xs h => ?_⟩
  · rcases q h with ⟨rfl, rfl, hi⟩ | ⟨e, h⟩
    · exact ⟨some v, List.getElem?_set_self (by rw [← E.e.len]; exact hi), r⟩
    · rw [List.getElem?_set_ne e]
      exact E1.e.sl j u h
  · rcases q h1 with ⟨rfl, e1, hi⟩ | ⟨n1, h1⟩
    · rcases q h2 with ⟨rfl, _, _⟩ | ⟨n2, h2⟩
      · exact absurd rfl hne
      · obtain ⟨a, rfl, ha⟩ := fr xs e1.symm
        rw [List.getElem?_set_self (by rw [← E.e.len]; exact hi), List.getElem?_set_ne n2]
        exact fun z => far h2 ha z.symm
    · rcases q h2 with ⟨rfl, e2, hi⟩ | ⟨n2, h2⟩
      · obtain ⟨a, rfl, ha⟩ := fr ys e2.symm
        rw [List.getElem?_set_self (by rw [← E.e.len]; exact hi), List.getElem?_set_ne n1]
        exact far h1 ha
      · rw [List.getElem?_set_ne n1, List.getElem?_set_ne n2]
        exact E.e.dis j k xs ys hne h1 h2
  · rcases q h with ⟨rfl, e1, hi⟩ | ⟨n1, h⟩
    · obtain ⟨a, rfl, ha⟩ := fr xs e1.symm
      refine ⟨a, List.getElem?_set_self (by rw [← E.e.len]; exact hi), ?_⟩
      cases z : H0 a with
      | none => rfl
      | some o => exact absurd ha (stay0 a (by rw [z]; exact fun z => nomatch z))
    · obtain ⟨a, e1, e2⟩ := E.fr j xs h
      exact ⟨a, by rw [List.getElem?_set_ne n1]; exact e1, e2⟩

section
variable {S : SCtx} {T : Tab} {tg iter elt e a b c : Expr} {st : Stmt} {ifs es : List Expr} {sts sts2 : List Stmt} {pos p : Pos} {f fe fa fb fc : EF} {fi fs : AF} {ft t u : TF} {vs : List Nat} {gf : GF} {gs : List GF} {s1 s2 s3 : SF} {xf yf : XF}
/-! ### blocks -/
theorem sss_nil : SSs S T [] sNil := fun X g m0 G0 H0 => pss_nil.imp fun Dn σ H ⟨ρ, cs, m, G, x, W, E, F⟩ => Post.now F x W σ E
theorem seq_read {K : PySem.W.Frag} {m0 : List Addr} {G0 H0 : Hp} {Dn : Ends} {σ : St} {H : Hp} (h : tS K m0 G0 H0 (sSeq s1 s2) Dn σ H) : tS K m0 G0 H0 s1 { Dn with nx := tS K m0 G0 H0 s2 Dn } σ H := by
  obtain ⟨ρ, cs, m, G, x, W, E, F⟩ := h
  refine ⟨ρ, cs, m, G, x, W, E, (F.bindB m0 G0 H0).imp fun fl cs1 m1 G1 H1 x1 W1 F1 => ?_⟩
  cases fl with
  | nx ρ1 => exact fun σ1 E1 => ⟨ρ1, cs1, m1, G1, x1, W1, E1, F1⟩
  | bk ρ1 => exact Post.now F1 x1 W1
  | ct ρ1 => exact Post.now F1 x1 W1
  | rt d => exact Post.now F1 x1 W1
theorem sss_cons (h : SS S T st s1) (hs : SSs S T sts s2) : SSs S T (st :: sts) (sSeq s1 s2) := fun X g m0 G0 H0 => (pss_cons (h X g m0 G0 H0) (hs X g m0 G0 H0)).imp fun Dn σ H k => seq_read k
theorem sss_one (h : SS S T st s1) : SSs S T [st] s1 := fun X g m0 G0 H0 => pss_one (h X g m0 G0 H0)
/-- a name's own list becomes a plain value (no statement of the text) -/
theorem sss_frz {i : Nat} (hs : SSs S T sts s2) : SSs S T sts (sSeq (sFrz i) s2) := fun X g m0 G0 H0 => (hs X g m0 G0 H0).imp fun Dn σ H ⟨ρ, cs, m, G, x, W, E, F⟩ => by
  have F0 := F.bindB m G H
  unfold sFrz at F0
  cases e : ρ[i]? with
  | none => rw [e] at F0; exact F0.elim
  | some s =>
    rw [e] at F0
    cases s with
    | no => exact F0.elim
    | va d => exact ⟨ρ, cs, m, G, x, W, E, Post.pure W F0⟩
    | own xs =>
      have F1 := Post.pure W F0
      obtain ⟨ov, e1, a, ws, rfl, h1, h2, h3, r⟩ := E.e.sl i _ e
      obtain ⟨a', e3, h0⟩ := E.fr i xs e
      rw [e1] at e3
      cases e3
      have hi : i < ρ.length := (List.getElem?_eq_some_iff.mp e).1
      have hσ : σ.set i (some (.ref a)) = σ := by
        apply List.ext_getElem?
        intro j
        by_cases z : i = j
        · subst z
          rw [List.getElem?_set_self (by rw [← E.e.len]; exact hi), e1]
        · rw [List.getElem?_set_ne z]
      have sm : Same G (upd G a (.lst ws)) := Same.fix h2
      refine ⟨ρ.set i (.va (.lst xs)), cs, m, upd G a (.lst ws), x.fix h0 h2, W.fix h1 h2 h3, ?_, F1⟩
      -- other own lists stay so
      have q : ∀ {j : Nat} {u : Sl}, (ρ.set i (.va (.lst xs)))[j]? = some u → (i = j ∧ u = .va (.lst xs)) ∨ (i ≠ j ∧ ρ[j]? = some u) := fun {j u} h => by
        by_cases z : i = j
        · subst z
          rw [List.getElem?_set_self hi] at h
          exact .inl ⟨rfl, (Option.some.inj h).symm⟩
        · rw [List.getElem?_set_ne z] at h
          exact .inr ⟨z, h⟩
      refine ⟨⟨by rw [List.length_set]; exact E.e.len, fun j u h => ?_, fun j k ys zs hne q1 q2 => ?_⟩, fun j ys h => ?_⟩
      · rcases q h with ⟨rfl, rfl⟩ | ⟨z, h⟩
        · exact ⟨_, e1, _, rfl, .lst upd_same (Rels.mono (Pre.refl m) sm r)⟩
        · obtain ⟨ov, k1, k2⟩ := E.e.sl j u h
          refine ⟨ov, k1, ?_⟩
          cases u with
          | no => trivial
          | va d => obtain ⟨v, k3, k4⟩ := k2; exact ⟨v, k3, Rel.mono (Pre.refl m) sm k4⟩
          | own ys =>
            obtain ⟨b, us, rfl, k3, k4, k5, k6⟩ := k2
            have hab : b ≠ a := fun z' => by
              subst z'
              exact E.e.dis i j xs ys z e h (e1.trans k1.symm)
            exact ⟨b, us, rfl, k3, by rw [upd_ne hab]; exact k4, k5, Rels.mono (Pre.refl m) sm k6⟩
      · rcases q q1 with ⟨_, z⟩ | ⟨_, q1⟩
        · cases z
        · rcases q q2 with ⟨_, z⟩ | ⟨_, q2⟩
          · cases z
          · exact E.e.dis j k ys zs hne q1 q2
      · rcases q h with ⟨_, z⟩ | ⟨_, h⟩
        · cases z
        · exact E.fr j ys h
/-! ### small statements -/
theorem ss_pass : SS S T (.Pass pos) sNil := fun X g m0 G0 H0 => ps_pass.imp fun Dn σ H ⟨ρ, cs, m, G, x, W, E, F⟩ => Post.now F x W σ E
theorem ss_break : SS S T (.Break pos) sBrk := fun X g m0 G0 H0 => ps_break.imp fun Dn σ H ⟨ρ, cs, m, G, x, W, E, F⟩ => Post.now F x W σ E
theorem ss_continue : SS S T (.Continue pos) sCnt := fun X g m0 G0 H0 => ps_continue.imp fun Dn σ H ⟨ρ, cs, m, G, x, W, E, F⟩ => Post.now F x W σ E
theorem ss_ret (h : SE S T e f) : SS S T (.Return (some e) pos) (sRet f) := fun X g m0 G0 H0 => (ps_ret (h X g)).imp fun Dn σ H ⟨ρ, cs, m, G, x, W, E, F⟩ =>
  ⟨ρ, cs, m, G, W, E.e, (F.bindB m G H).imp fun d cs1 m1 G1 H1 x1 W1 F1 v rv => Post.now F1 (x.trans x1) W1 v rv⟩
theorem ss_retN : SS S T (.Return none pos) sRetN := fun X g m0 G0 H0 => ps_retN.imp fun Dn σ H ⟨ρ, cs, m, G, x, W, E, F⟩ => Post.now F x W _ .non
theorem ss_if (h : ST S T c t) (ha : SSs S T sts s1) (hb : SSs S T sts2 s2) : SS S T (.If c sts sts2 pos) (sIf t s1 s2) := fun X g m0 G0 H0 => (ps_if (h X g) (ha X g m0 G0 H0) (hb X g m0 G0 H0)).imp fun Dn σ H ⟨ρ, cs, m, G, x, W, E, F⟩ =>
  ⟨ρ, cs, m, G, W, E.e, (F.bindB m G H).imp fun d cs1 m1 G1 H1 x1 W1 F1 => by
    cases d with
    | true => exact iteT ⟨ρ, cs1, m1, G1, x.trans x1, W1, E.ext x1, F1⟩
    | false => exact iteF ⟨ρ, cs1, m1, G1, x.trans x1, W1, E.ext x1, F1⟩⟩
/-- a statement that is not come to -/
def sNever : SF := fun _ => M.bad
theorem ss_never : SS S T st sNever := fun X g m0 G0 H0 => ps_never.imp fun Dn σ H ⟨ρ, cs, m, G, x, W, E, F⟩ => F
theorem ss_expr (h : SE S T e f) (hs : ∀ env, swapsWith e none pos.line env = pure false := by intro _; rfl) : SS S T (.Expr e pos) (sExpr f) := fun X g m0 G0 H0 => (ps_expr (h X g) (hs X.env)).imp fun Dn σ H ⟨ρ, cs, m, G, x, W, E, F⟩ =>
  ⟨ρ, cs, m, G, W, E.e, (F.bindB m G H).imp fun d cs1 m1 G1 H1 x1 W1 F1 v rv => Post.now F1 (x.trans x1) W1 σ (E.ext x1)⟩
/-! ### stores -/
theorem locG {X : Cx} (g : Good S T X) {i : Nat} {x : Str} (h : locB S i x = true) : X.N[i]? = some x ∧ L2.Loc X.env.scope x ∧ (X.fn x = true ∨ X.env.scope.names.lookup x = some .local) := by
  unfold locB at h
  simp only [Bool.and_eq_true, Bool.or_eq_true, decide_eq_true_eq] at h
  obtain ⟨h1, h2⟩ := h
  refine ⟨by rw [g.N]; exact h1, ?_, h2.elim (fun h => .inr (by rw [g.sc]; exact h)) fun h => .inl (g.fnc x h.2)⟩
  unfold L2.Loc
  rw [g.sc]
  exact h2.elim .inl fun h => .inr h.1
theorem set_read {K : PySem.W.Frag} {m0 : List Addr} {G0 H0 : Hp} {Dn : Ends} {σ : St} {H : Hp} {i : Nat} (h : tS K m0 G0 H0 (sSet i xf) Dn σ H) : tX K xf σ H fun v H1 => Dn.nx (σ.set i (some v)) H1 := by
  obtain ⟨ρ, cs, m, G, x, W, E, F⟩ := h
  refine ⟨ρ, cs, m, G, W, E.e, (F.bindB m G H).imp fun s cs1 m1 G1 H1 x1 W1 F1 ne v rv fr => ?_⟩
  exact Post.now F1 (x.trans x1) W1 _ (E.setX x1 x.stay ne rv fr i)
theorem ss_set (i : Nat) {x : Str} {p2 : Pos} (h : SX S T e xf) (hl : locB S i x = true := by decide +kernel) (hs : ∀ env, swapsWith e (some (.Name x p2)) pos.line env = pure false := by intro _; rfl) : SS S T (.Assign [.Name x p2] e pos) (sSet i xf) := fun X g m0 G0 H0 => by
  obtain ⟨q1, q2, q3⟩ := locG g hl
  exact (ps_set g.nd q1 q2 (h X g) (hs X.env) q3).imp fun Dn σ H k => set_read k
/-- name = [..]: own it or not -/
theorem own_read {K : PySem.W.Frag} {σ : St} {H : Hp} {Q : VK} (h : tX K (xOwn fs) σ H Q) : tF K fs σ H Q := by
  obtain ⟨ρ, cs, m, G, W, E, F⟩ := h
  exact ⟨ρ, cs, m, G, W, E, F.bind.imp fun ds cs1 m1 G1 H1 x1 W1 F1 a vs h0 h1 hG hm r => (Post.pure W1 F1) (fun z => nomatch z) (.ref a) ⟨a, vs, rfl, h1, hG, hm, r⟩ (fun _ _ => ⟨a, rfl, h0⟩)⟩
theorem val_readX {K : PySem.W.Frag} {σ : St} {H : Hp} {Q : VK} (h : tX K (xVal f) σ H Q) : tE K f σ H Q := by
  obtain ⟨ρ, cs, m, G, W, E, F⟩ := h
  exact ⟨ρ, cs, m, G, W, E, F.bind.imp fun d cs1 m1 G1 H1 x1 W1 F1 v r => (Post.pure W1 F1) (fun z => nomatch z) v ⟨v, rfl, r⟩ (fun _ z => nomatch z)⟩
theorem fix_read {K : PySem.W.Frag} {σ : St} {H : Hp} {Q : VK} (h : tE K (eLst fs) σ H Q) : tF K fs σ H Q := by
  obtain ⟨ρ, cs, m, G, W, E, F⟩ := h
  exact ⟨ρ, cs, m, G, W, E, (Post.map F).imp fun ds cs1 m1 G1 H1 x1 W1 F1 a vs h0 h1 hG hm r =>
    F1 m1 (upd G1 a (.lst vs)) H1 (x1.fix h0 hG) (W1.fix h1 hG hm) (.ref a) (.lst upd_same (Rels.mono (Pre.refl m1) (Same.fix hG) r))⟩
/-- the store of a comprehension's list: the name's kind and line -/
def swB (S : SCtx) (scope : Scope) (y : Str) (py pos : Pos) : Bool := decide (S.sc.kind = .function) && decide (S.sc.names.lookup y = some .local) && (py.line == pos.line) && !(scope.names.any fun (n, k) => n == y && (k == .local || k == .cell))
theorem ss_setC (i : Nat) {y : Str} {p2 cpos : Pos} {scope : Scope} (own : List (Str × Nat)) (hx : ∀ (K : PySem.W.Frag) (σ : St) (H : Hp) (Q : VK), tX K xf σ H Q → tF K (cComp (own.map (·.2)) fi gf ft fe) σ H Q) (hi : SIC S T tg iter fi) (hg : SG (S.blk scope) T tg (own.map (·.2)) gf) (ht : STs (S.blk scope) T ifs ft) (he : SE (S.blk scope) T elt fe)
    (ok : blkC S.N S.sc scope own = true := by decide +kernel) (hl : locB S i y = true := by decide +kernel) (hsw : swB S scope y p2 cpos = true := by decide +kernel) (hs : ∀ env x, foldedSetIterable iter env x = pure x := by intro _ _; rfl) :
    SS S T (.Assign [.Name y p2] (.ListComp elt [⟨tg, iter, ifs, 0⟩] scope cpos) pos) (sSet i xf) := fun X g m0 G0 H0 => by
  obtain ⟨q1, q2, q3⟩ := locG g hl
  unfold swB at hsw
  simp only [Bool.and_eq_true, decide_eq_true_eq, Bool.not_eq_true'] at hsw
  obtain ⟨⟨⟨k1, k2⟩, k3⟩, k4⟩ := hsw
  have hlk : X.env.scope.names.lookup y = some .local := by rw [g.sc]; exact k2
  refine (ps_setLc (wi := tIC X.K fi) (g := tG X.K (own.map (·.2)) gf) (tt := tT X.K ft) (te := tE X.K fe) (own := own) g.calm g.nd q1 hlk (sw_true (by rw [g.sc]; exact k1) hlk k3 k4) (hi X g) (blkOk_by (by rw [g.N, g.sc]; exact ok)) (fun s H C cl fp => hg _ (g.blk s H scope C cl fp)) (fun s H C cl fp => ht.run _ (g.blk s H scope C cl fp)) (fun s H C cl fp => he _ (g.blk s H scope C cl fp)) (hs X.env)).imp fun Dn σ H k => ?_
  exact comp_read (hx X.K σ H _ (set_read k))
theorem ss_setCo (i : Nat) {y : Str} {p2 cpos : Pos} {scope : Scope} (own : List (Str × Nat)) (hi : SIC S T tg iter fi) (hg : SG (S.blk scope) T tg (own.map (·.2)) gf) (ht : STs (S.blk scope) T ifs ft) (he : SE (S.blk scope) T elt fe)
    (ok : blkC S.N S.sc scope own = true := by decide +kernel) (hl : locB S i y = true := by decide +kernel) (hsw : swB S scope y p2 cpos = true := by decide +kernel) (hs : ∀ env x, foldedSetIterable iter env x = pure x := by intro _ _; rfl) :
    SS S T (.Assign [.Name y p2] (.ListComp elt [⟨tg, iter, ifs, 0⟩] scope cpos) pos) (sSet i (xOwn (cComp (own.map (·.2)) fi gf ft fe))) := ss_setC i own (fun _ _ _ _ h => own_read h) hi hg ht he ok hl hsw hs
theorem ss_setCv (i : Nat) {y : Str} {p2 cpos : Pos} {scope : Scope} (own : List (Str × Nat)) (hi : SIC S T tg iter fi) (hg : SG (S.blk scope) T tg (own.map (·.2)) gf) (ht : STs (S.blk scope) T ifs ft) (he : SE (S.blk scope) T elt fe)
    (ok : blkC S.N S.sc scope own = true := by decide +kernel) (hl : locB S i y = true := by decide +kernel) (hsw : swB S scope y p2 cpos = true := by decide +kernel) (hs : ∀ env x, foldedSetIterable iter env x = pure x := by intro _ _; rfl) :
    SS S T (.Assign [.Name y p2] (.ListComp elt [⟨tg, iter, ifs, 0⟩] scope cpos) pos) (sSet i (xVal (eLst (cComp (own.map (·.2)) fi gf ft fe)))) := ss_setC i own (fun _ _ _ _ h => fix_read (val_readX h)) hi hg ht he ok hl hsw hs
/-- .. where the name is a cell -/
def swF (S : SCtx) (y : Str) : Bool := decide (S.sc.names.lookup y = some .cell)
theorem ss_setK (i : Nat) {x : Str} {p2 cpos : Pos} {scope : Scope} {gens : List Comprehension} (h : SX S T (.ListComp elt gens scope cpos) xf) (hl : locB S i x = true := by decide +kernel) (hk : swF S x = true := by decide +kernel) : SS S T (.Assign [.Name x p2] (.ListComp elt gens scope cpos) pos) (sSet i xf) := fun X g m0 G0 H0 => by
  obtain ⟨q1, q2, q3⟩ := locG g hl
  refine (ps_set g.nd q1 q2 (h X g) ?_ q3).imp fun Dn σ H k => set_read k
  unfold swF at hk
  rw [decide_eq_true_eq] at hk
  have ky : X.env.kindOf x = some .cell := by show X.env.scope.names.lookup x = _; rw [g.sc]; exact hk
  unfold swapsWith
  have e : (some NameKind.cell == some NameKind.local) = false := by decide
  simp only [ky, e, Bool.and_false, Bool.false_and]
/-- a target of any form -/
theorem asg_read {K : PySem.W.Frag} {m0 : List Addr} {G0 H0 : Hp} {Dn : Ends} {σ : St} {H : Hp} (h : tS K m0 G0 H0 (sAsg gf f) Dn σ H) : tE K f σ H fun v H1 => tG K vs gf v σ H1 Dn.nx := by
  obtain ⟨ρ, cs, m, G, x, W, E, F⟩ := h
  refine ⟨ρ, cs, m, G, W, E.e, (F.bindB m G H).imp fun d cs1 m1 G1 H1 x1 W1 F1 v rv => ?_⟩
  refine ⟨ρ, cs1, m1, G1, d, W1, E.e.ext x1, rv, (F1.bindB m1 G1 H1).imp fun ρ2 cs2 m2 G2 H2 x2 W2 F2 σ2 E2 k2 => ?_⟩
  exact Post.now F2 ((x.trans x1).trans x2) W2 σ2 (E.kept E2 k2)
theorem ss_asg (h : SE S T e f) (hg : SG S T tg vs gf) (hp : plainT tg = true := by rfl) (hs : ∀ env, swapsWithSole [tg] e pos.line env = pure false := by intro _; rfl) (hw : ∀ env, swappedStores [tg] e env = pure none := by intro _; rfl) : SS S T (.Assign [tg] e pos) (sAsg gf f) := fun X g m0 G0 H0 =>
  (ps_asg (h X g) (hg X g) (hs X.env) (hw X.env) (by rw [assign_cons hp]; rfl)).imp fun Dn σ H k => asg_read k
end
end RP
end

section
set_option Elab.async false
set_option linter.all false
set_option maxRecDepth 100000
set_option autoImplicit false
/-! RpS10: own lists changed, shared lists written, loops, bodies of defs. -/
namespace RP
open PySem PySem.Spec PyProof.Rows L2

/-- the own list in slot i is changed -/
theorem EnvS.upd {K : PySem.W.Frag} {m : List Addr} {G H H0 : Hp} {ρ : Env} {σ : St} {i : Nat} {xs ys : List D} {a : Addr} {ws : List V} (E : EnvS K m G H H0 ρ σ) (hi : ρ[i]? = some (.own xs)) (hσ : σ[i]? = some (some (.ref a))) (hG : G a = none) (hm : a ∉ m) (r : Rels K m G ys ws) :
    EnvS K m G (L2.upd H a (.lst ws)) H0 (ρ.set i (.own ys)) σ := by
  have hl : i < ρ.length := (List.getElem?_eq_some_iff.mp hi).1
  have q : ∀ {j : Nat} {u : Sl}, (ρ.set i (.own ys))[j]? = some u → (i = j ∧ u = .own ys) ∨ (i ≠ j ∧ ρ[j]? = some u) := fun {j u} h => by
    by_cases z : i = j
    · subst z
      rw [List.getElem?_set_self hl] at h
      exact .inl ⟨rfl, (Option.some.inj h).symm⟩
    · rw [List.getElem?_set_ne z] at h
      exact .inr ⟨z, h⟩
  have old : ∀ {j : Nat} {zs : List D}, (ρ.set i (.own ys))[j]? = some (.own zs) → ∃ zs', ρ[j]? = some (.own zs') := fun {j zs} h => by
    rcases q h with ⟨rfl, _⟩ | ⟨_, h⟩
    · exact ⟨_, hi⟩
    · exact ⟨_, h⟩
  refine ⟨⟨by rw [List.length_set]; exact E.e.len, fun j u h => ?_, fun j k us zs hne h1 h2 => ?_⟩, fun j zs h => ?_⟩
  · rcases q h with ⟨rfl, rfl⟩ | ⟨z, h⟩
    · exact ⟨_, hσ, a, ws, rfl, upd_same, hG, hm, r⟩
    · obtain ⟨ov, k1, k2⟩ := E.e.sl j u h
      refine ⟨ov, k1, ?_⟩
      cases u with
      | no => trivial
      | va d => exact k2
      | own zs =>
        obtain ⟨b, us, rfl, k3, k4, k5, k6⟩ := k2
        have hab : b ≠ a := fun z' => by
          subst z'
          exact E.e.dis i j xs zs z hi h (hσ.trans k1.symm)
        exact ⟨b, us, rfl, by rw [upd_ne hab]; exact k3, k4, k5, k6⟩
  · obtain ⟨_, o1⟩ := old h1
    obtain ⟨_, o2⟩ := old h2
    exact E.e.dis j k _ _ hne o1 o2
  · obtain ⟨_, o⟩ := old h
    exact E.fr j _ o
theorem ownAt_read {α : Type} {K : PySem.W.Frag} {m : List Addr} {G H H0 : Hp} {ρ : Env} {σ : St} {i : Nat} {cs : Cells} {f : List D → M α} {mB : List Addr} {GB HB : Hp} {P : α → Cells → List Addr → Hp → Hp → Prop} (E : EnvS K m G H H0 ρ σ) (F : Post K mB GB HB ((ownAt i ρ >>= f) cs) P) :
    ∃ xs a vs, ρ[i]? = some (.own xs) ∧ σ[i]? = some (some (.ref a)) ∧ H a = some (.lst vs) ∧ G a = none ∧ a ∉ m ∧ H0 a = none ∧ Rels K m G xs vs ∧ Post K mB GB HB (f xs cs) P := by
  unfold ownAt at F
  cases e : ρ[i]? with
  | none => rw [e] at F; exact F.elim
  | some s =>
    rw [e] at F
    cases s with
    | no => exact F.elim
    | va d => exact F.elim
    | own xs =>
      obtain ⟨ov, k1, a, vs, rfl, k2, k3, k4, k5⟩ := E.e.sl i _ e
      obtain ⟨a', k6, k7⟩ := E.fr i xs e
      rw [k1] at k6
      cases k6
      exact ⟨xs, a, vs, rfl, k1, k2, k3, k4, k7, k5, F⟩
section
variable {S : SCtx} {T : Tab} {tg iter elt e a b c : Expr} {st : Stmt} {ifs es : List Expr} {sts sts2 : List Stmt} {pos p : Pos} {f fe fa fb fc : EF} {fi fs : AF} {ft t u : TF} {vs : List Nat} {gf : GF} {gs : List GF} {s1 s2 s3 : SF} {xf yf : XF}
/-! ### own lists -/
theorem ss_ext (i : Nat) {x : Str} {p2 : Pos} (h : SO S T e f) (hl : locB S i x = true := by decide +kernel) : SS S T (.AugAssign (.Name x p2) .Add e pos) (sExt i f) := fun X g m0 G0 H0 => by
  obtain ⟨q1, q2, q3⟩ := locG g hl
  refine (ps_aug g.nd q1 q2 (h X g) (iop_ext : PIp X .Add rExt2) q3).imp fun Dn σ H ⟨ρ, cs, m, G, x, W, E, F⟩ => ?_
  obtain ⟨xs, a, ws, e1, e2, e3, e4, e5, e6, r, F⟩ := ownAt_read E F
  refine ⟨.ref a, e2, ρ, cs, m, G, W, E.e, (F.bindB m G H).imp fun d cs1 m1 G1 H1 x1 W1 F1 v rv => ?_⟩
  cases d with
  | lst ys =>
    obtain ⟨hz, F2⟩ := Post.fit F1
    rw [LIM_eq] at hz
    obtain ⟨b, us, rfl, hb, ry⟩ := rv.lst W1
    have ha1 := x1.keep a _ e3 e5
    have hne : H a ≠ none := by rw [e3]; exact fun z => nomatch z
    have hg1 := x1.newG a hne e4
    have hm1 := x1.newM a hne e5
    have r1 := Rels.mono x1.pre x1.frz r
    refine ⟨a, b, ws, us, rfl, rfl, ha1, hb, by rw [← r1.length, ← ry.length]; exact hz, ?_⟩
    have hσ : σ.set i (some (.ref a)) = σ := by
      apply List.ext_getElem?
      intro j
      by_cases z : i = j
      · subst z
        rw [List.getElem?_set_self (List.getElem?_eq_some_iff.mp e2).1, e2]
      · rw [List.getElem?_set_ne z]
    show Dn.nx (σ.set i (some (.ref a))) _
    rw [hσ]
    exact Post.now F2 ((x.trans x1).over e6) (W1.over hg1 hm1) σ ((E.ext x1).upd e1 e2 hg1 hm1 (r1.append ry))
  | _ => exact F1.elim
theorem ss_app (i : Nat) {x : Str} {p1 p2 cpos : Pos} (h : SE S T e f) (hv : visB S i x = true := by decide +kernel) (hn : noStar e = true := by rfl) (hl : (p2.endLine == cpos.line) = true := by rfl) :
    SS S T (.Expr (.Call (.Attribute (.Name x p1) "append" p2) [e] [] cpos) pos) (sApp i f) := fun X g m0 G0 H0 => by
  refine (ps_expr (pe_bm PySem.F.plainAttrs_list PySem.F.slot_list_append PySem.F.type_list_append mt_append (pe_v g hv) (pa_cons (h X g) pa_nil (star_cons hn [] X.env)) rfl (by rw [star_cons hn]; rfl) hl (star_cons hn [] X.env) rfl)).imp fun Dn σ H ⟨ρ, cs, m, G, x, W, E, F⟩ => ?_
  obtain ⟨xs, a, ws, e1, e2, e3, e4, e5, e6, r, F⟩ := ownAt_read E F
  refine ⟨.ref a, e2, .inl ⟨rfl, ws, SqL.of e3⟩, ρ, cs, m, G, W, E.e, (F.bindB m G H).imp fun d cs1 m1 G1 H1 x1 W1 F1 v rv => ?_⟩
  obtain ⟨hz, F2⟩ := Post.fit F1
  rw [LIM_eq] at hz
  have ha1 := x1.keep a _ e3 e5
  have hne : H a ≠ none := by rw [e3]; exact fun z => nomatch z
  have hg1 := x1.newG a hne e4
  have hm1 := x1.newM a hne e5
  have r1 := Rels.mono x1.pre x1.frz r
  refine ⟨a, ws, v, rfl, rfl, ha1, by rw [← r1.length]; exact hz, ?_⟩
  exact Post.now F2 ((x.trans x1).over e6) (W1.over hg1 hm1) σ ((E.ext x1).upd e1 e2 hg1 hm1 (r1.append (.cons rv .nil)))
theorem ss_pop (i : Nat) {x : Str} {p1 p2 cpos : Pos} (hg : SG S T tg vs gf) (hv : visB S i x = true := by decide +kernel) (hp : plainT tg = true := by rfl) (hl : (p2.endLine == cpos.line) = true := by rfl)
    (hs : ∀ env, swapsWithSole [tg] (.Call (.Attribute (.Name x p1) "pop" p2) [] [] cpos) pos.line env = pure false := by intro _; rfl) (hw : ∀ env, swappedStores [tg] (.Call (.Attribute (.Name x p1) "pop" p2) [] [] cpos) env = pure none := by intro _; rfl) :
    SS S T (.Assign [tg] (.Call (.Attribute (.Name x p1) "pop" p2) [] [] cpos) pos) (sPop i gf) := fun X g m0 G0 H0 => by
  refine (ps_asg (pe_bm0 PySem.F.plainAttrs_list PySem.F.slot_list_pop PySem.F.type_list_pop mt_pop (pe_v g hv) rfl hl) (hg X g) (hs X.env) (hw X.env) (by rw [assign_cons hp]; rfl)).imp fun Dn σ H ⟨ρ, cs, m, G, x, W, E, F⟩ => ?_
  obtain ⟨xs, a, ws, e1, e2, e3, e4, e5, e6, r, F⟩ := ownAt_read E F
  refine ⟨.ref a, e2, .inl ⟨rfl, ws, SqL.of e3⟩, ?_⟩
  cases hy : xs.getLast? with
  | none => rw [hy] at F; exact F.elim
  | some y =>
    rw [hy] at F
    have hy2 : xs[xs.length - 1]? = some y := by rw [← List.getLast?_eq_getElem?]; exact hy
    obtain ⟨v, hv2, rv⟩ := r.get' hy2
    rw [r.length] at hv2
    refine ⟨a, ws, v, rfl, rfl, e3, hv2, ?_⟩
    have rd : Rels X.K m G xs.dropLast ws.dropLast := by
      rw [List.dropLast_eq_take, List.dropLast_eq_take, r.length]
      exact Rels.take _ r
    have E1 := E.upd e1 e2 e4 e5 rd
    refine ⟨ρ.set i (.own xs.dropLast), cs, m, G, y, W.over e4 e5, E1.e, rv, (F.bindB m G _).imp fun ρ1 cs1 m1 G1 H1 x1 W1 F1 σ1 E2 k1 => ?_⟩
    exact Post.now F1 ((x.over e6).trans x1) W1 σ1 (E1.kept E2 k1)
/-! ### shared lists -/
theorem cell_upd {K : PySem.W.Frag} {m : List Addr} {G H : Hp} {cs : Cells} {n j : Nat} {xs : List D} {ws : List V} {a : Addr} {d : D} {v : V} (W : Wf K m G H cs) (hc : cs[n]? = some xs) (hm : m[n]? = some a) (hH : H a = some (.lst ws)) (r : Rels K m G xs ws) (rv : Rel K m G d v) :
    Ext m G H m G (upd H a (.lst (ws.set j v))) ∧ Wf K m G (upd H a (.lst (ws.set j v))) (cs.set n (xs.set j d)) := by
  have ham : a ∈ m := List.mem_of_getElem? hm
  refine ⟨⟨Pre.refl m, Same.refl G, fun b o e nb => ?_, fun b e => ?_, fun _ _ h => h, fun _ _ h => h⟩, ⟨fun b o e => ?_, by rw [List.length_set]; exact W.len, fun k ds b h1 h2 => ?_, W.mG, W.nd⟩⟩
  · have : b ≠ a := fun z => by subst z; exact nb ham
    rw [upd_ne this]; exact e
  · by_cases z : b = a
    · subst z; rw [upd_same]; exact fun z => nomatch z
    · rw [upd_ne z]; exact e
  · have : b ≠ a := fun z => by subst z; rw [W.mG b ham] at e; cases e
    rw [upd_ne this]; exact W.sub b o e
  · by_cases z : n = k
    · subst z
      have hl : n < cs.length := (List.getElem?_eq_some_iff.mp hc).1
      rw [List.getElem?_set_self hl] at h1
      rw [hm] at h2
      cases h1
      cases h2
      exact ⟨_, upd_same, Rels.set rv j r⟩
    · rw [List.getElem?_set_ne z] at h1
      obtain ⟨us, q1, q2⟩ := W.cell k ds b h1 h2
      have : b ≠ a := fun zz => by
        subst zz
        obtain ⟨l1, e1⟩ := List.getElem?_eq_some_iff.mp hm
        obtain ⟨l2, e2⟩ := List.getElem?_eq_some_iff.mp h2
        exact z ((List.getElem_inj W.nd).mp (e1.trans e2.symm))
      exact ⟨us, by rw [upd_ne this]; exact q1, q2⟩
theorem ss_put {o k : Expr} {fo fk : EF} {p2 : Pos} (h : SE S T e f) (ho : SO S T o fo) (hk : SO S T k fk) (hs : ∀ env, swapsWithSole [.Subscript o k p2] e pos.line env = pure false := by intro _; rfl) (hw : ∀ env, swappedStores [.Subscript o k p2] e env = pure none := by intro _; rfl)
    (ha : ∀ env v, assign (.Subscript o k p2) env v = (do
      let ov ← holding [v] (eval o env)
      let iv ← holding [v, ov] (eval k env)
      standAt p2
      holding [v, ov, iv] (setItem ov iv v)
      release [v, ov, iv] []) := by intro _ _; rfl) (h1 : ∀ env, (assignEach [.Subscript o k p2] env).map (·.2) = [assign (.Subscript o k p2) env] := by intro _; rfl) : SS S T (.Assign [.Subscript o k p2] e pos) (sPut fo fk f putD) := fun X g m0 G0 H0 => by
  refine (ps_asg (h X g) (pg_sub (ho X g) (hk X g) set_list (ha X.env)) (hs X.env) (hw X.env) (h1 X.env)).imp fun Dn σ H ⟨ρ, cs, m, G, x, W, E, F⟩ => ?_
  refine ⟨ρ, cs, m, G, W, E.e, (F.bindB m G H).imp fun d cs1 m1 G1 H1 x1 W1 F1 v rv => ?_⟩
  refine ⟨ρ, cs1, m1, G1, W1, E.e.ext x1, (F1.bindB m1 G1 H1).imp fun dx cs2 m2 G2 H2 x2 W2 F2 ov ro => ?_⟩
  refine ⟨ρ, cs2, m2, G2, W2, (E.e.ext x1).ext x2, (F2.bindB m2 G2 H2).imp fun dk cs3 m3 G3 H3 x3 W3 F3 iv ri => ?_⟩
  cases dx with
  | obj n =>
    cases dk with
    | int j =>
      have F3 : Post X.K m0 G0 H0 (((cellAt n >>= fun xs => optM (RP.ixN xs.length j) >>= fun j => putCell n j d) >>= fun _ => (pure (.nx ρ) : M Fl)) cs3) _ := F3
      rw [M.bind_eq, M.bind_eq] at F3
      unfold cellAt at F3
      cases e1 : cs3[n]? with
      | none => rw [e1] at F3; exact F3.elim
      | some xs =>
        rw [e1] at F3
        dsimp only at F3
        cases e2 : RP.ixN xs.length j with
        | none => rw [e2] at F3; exact F3.elim
        | some q =>
          rw [e2] at F3
          have F4 : Post X.K m0 G0 H0 ((putCell n q d >>= fun _ => (pure (.nx ρ) : M Fl)) cs3) _ := F3
          rw [M.bind_eq] at F4
          unfold putCell at F4
          rw [e1] at F4
          dsimp only at F4
          have ro3 := ro.ext x3
          obtain ⟨a, ws, rfl, hm, hH, rr⟩ := ro3.obj W3 e1
          have rv3 : Rel X.K m3 G3 d v := Rel.mono x3.pre x3.frz (Rel.mono x2.pre x2.frz rv)
          obtain ⟨y1, y2⟩ := cell_upd (j := q) W3 e1 hm hH rr rv3
          refine ⟨a, ws, j, q, rfl, ri.int, hH, by rw [← rr.length]; exact e2, ?_⟩
          have xx := ((x1.trans x2).trans x3).trans y1
          exact Post.now F4 (x.trans xx) y2 σ (E.ext xx)
    | _ => exact F3.elim
  | _ => exact F3.elim
/-! ### name op= e -/
theorem ss_aug (i : Nat) {x : Str} {p2 : Pos} {op : Operator} {r : PySem.W.Frag → R2} {gD : D → D → M D} (ho : ∀ X, Good S T X → OpR X (inplaceOp op) (r X.K)) (hd : ∀ K, OpD K (r K) gD) (h : SO S T e f) (hl : locB S i x = true := by decide +kernel) : SS S T (.AugAssign (.Name x p2) op e pos) (sAug i gD f) := fun X g m0 G0 H0 => by
  obtain ⟨q1, q2, q3⟩ := locG g hl
  refine (ps_aug g.nd q1 q2 (h X g) (ho X g : PIp X op (r X.K)) q3).imp fun Dn σ H ⟨ρ, cs, m, G, x, W, E, F⟩ => ?_
  have F0 := F.bindB m G H
  unfold eVar at F0
  cases e1 : ρ[i]? with
  | none => rw [e1] at F0; exact F0.elim
  | some s =>
    rw [e1] at F0
    cases s with
    | no => exact F0.elim
    | own _ => exact F0.elim
    | va d =>
      obtain ⟨ov, k1, v, rfl, rv⟩ := E.e.sl i _ e1
      have F1 := Post.pure W F0
      refine ⟨v, k1, ρ, cs, m, G, W, E.e, (F1.bindB m G H).imp fun dy cs1 m1 G1 H1 x1 W1 F2 u ru => ?_⟩
      refine hd X.K m1 G1 H1 cs1 d dy v u _ W1 (.inl (Rel.mono x1.pre x1.frz rv)) ru ((F2.bindB m1 G1 H1).imp fun dz cs2 m2 G2 H2 x2 W2 F3 z rz => ?_)
      have xx := x1.trans x2
      exact Post.now F3 (x.trans xx) W2 _ (E.setX (s := .va dz) xx x.stay (fun z => nomatch z) ⟨z, rfl, rz⟩ (fun _ z => nomatch z) i)
/-! ### loops -/
theorem Ext.base {m0 m1 : List Addr} {G0 H0 G1 H1 : Hp} (x : Ext m0 G0 H0 m1 G1 H1) {m : List Addr} {G H : Hp} : Ext m1 G1 H0 m G H → Ext m0 G0 H0 m G H := fun y =>
  ⟨x.pre.trans y.pre, x.frz.trans y.frz, fun a o h n => y.keep a o h (x.newM a (by rw [h]; exact fun z => nomatch z) n), y.stay, fun a h g => y.newG a h (x.newG a h g), fun a h n => y.newM a h (x.newM a h n)⟩
theorem Ext.rebase {m0 m1 : List Addr} {G0 H0 G1 H1 : Hp} (x : Ext m0 G0 H0 m1 G1 H1) : Ext m1 G1 H0 m1 G1 H1 :=
  ⟨Pre.refl m1, Same.refl G1, fun a o h n => x.keep a o h (fun z => n (x.pre.mem z)), x.stay, fun a _ g => g, fun a _ n => n⟩
theorem Post.base {α : Type} {K : PySem.W.Frag} {m0 m1 : List Addr} {G0 H0 G1 H1 : Hp} {r : Res α} {P : α → Cells → List Addr → Hp → Hp → Prop} (x : Ext m0 G0 H0 m1 G1 H1) (h : Post K m0 G0 H0 r P) : Post K m1 G1 H0 r P := by
  cases r with
  | ok a cs => exact fun m G H y W => h m G H (x.base y) W
  | exc _ _ => exact h
  | bad => exact h
theorem for_read {K : PySem.W.Frag} {m0 : List Addr} {G0 H0 : Hp} {Dn : Ends} {σ : St} {H : Hp} {tb : TS} (hb : ∀ m1 G1 Dn σ H, tS K m1 G1 H0 s1 Dn σ H → tb Dn σ H) (h : tS K m0 G0 H0 (sFor fi gf s1) Dn σ H) : tFor (tI K fi) (tG K vs gf) tb Dn σ H := by
  obtain ⟨ρ, cs, m, G, x, W, E, F⟩ := h
  refine ⟨ρ, cs, m, G, W, E.e, (F.bindB m G H).imp fun ds cs1 m1 G1 H1 x1 W1 F1 hl J w => ?_⟩
  have xb := x.trans x1
  have F1' := Post.base xb F1
  refine ⟨fun i n σ' H' => n = ds.length - i ∧ i ≤ ds.length ∧ ∃ ρ' cs2 m2 G2, Ext m1 G1 H0 m2 G2 H' ∧ Wf K m2 G2 H' cs2 ∧ EnvS K m2 G2 H' H0 ρ' σ' ∧ Post K m1 G1 H0 (forL gf s1 (ds.drop i) ρ' cs2) (fun fl _ m' G' H'' => FlP K H0 Dn fl m' G' H''),
    ⟨ds.length, rfl, Nat.zero_le _, ρ, cs1, m1, G1, xb.rebase, W1, E.ext x1, F1'⟩, ?_⟩
  rintro i n σ2 H2 ⟨rfl, hi, ρ2, cs2, m2, G2, x2, W2, E2, F2⟩
  obtain ⟨wgo, wstop, wyld⟩ := w m2 G2 H2 cs2 i ⟨x2.pre, x2.frz⟩ W2
  by_cases hlt : i < ds.length
  · refine .inr ⟨wgo hlt, fun σ' H' => ∃ ρ' cs3 m3 G3, Ext m1 G1 H0 m3 G3 H' ∧ Wf K m3 G3 H' cs3 ∧ EnvS K m3 G3 H' H0 ρ' σ' ∧ Post K m1 G1 H0 (forL gf s1 (ds.drop (i + 1)) ρ' cs3) (fun fl _ m' G' H'' => FlP K H0 Dn fl m' G' H''),
      fun σ' H' z => ⟨ds.length - (i + 1), by omega, rfl, hlt, z⟩, fun v H3 y => ?_⟩
    obtain ⟨G3, x3, W3, rx⟩ := wyld v H3 y ds[i] (List.getElem?_eq_getElem hlt)
    have ed : ds.drop i = ds[i] :: ds.drop (i + 1) := List.drop_eq_getElem_cons hlt
    rw [ed] at F2
    have F2 : Post K m1 G1 H0 ((gf ds[i] ρ2 >>= fun ρ1 => s1 ρ1 >>= fun fl => match fl with
      | .nx ρ2 => forL gf s1 (ds.drop (i + 1)) ρ2
      | .ct ρ2 => forL gf s1 (ds.drop (i + 1)) ρ2
      | .bk ρ2 => pure (.nx ρ2)
      | .rt d => pure (.rt d)) cs2) _ := F2
    refine ⟨ρ2, cs2, m2, G3, ds[i], W3, (E2.ext x3).e, rx, (F2.bindB m2 G3 H3).imp fun ρ4 cs4 m4 G4 H4 x4 W4 F4 σ4 E4 k4 => ?_⟩
    have E4' := (E2.ext x3).kept E4 k4
    have xx := (x2.trans x3).trans x4
    refine hb m1 G1 _ σ4 H4 ⟨ρ4, cs4, m4, G4, xx, W4, E4', (F4.bindB m1 G1 H0).imp fun fl cs5 m5 G5 H5 x5 W5 F5 => ?_⟩
    cases fl with
    | nx ρ5 => exact fun σ5 E5 => ⟨ρ5, cs5, m5, G5, x5, W5, E5, F5⟩
    | ct ρ5 => exact fun σ5 E5 => ⟨ρ5, cs5, m5, G5, x5, W5, E5, F5⟩
    | bk ρ5 => exact Post.now F5 x5 W5
    | rt d => exact Post.now F5 x5 W5
  · have e : i = ds.length := by omega
    subst e
    refine .inl ⟨wstop rfl, ?_⟩
    rw [List.drop_length] at F2
    exact Post.now F2 x2 W2 σ2 E2
theorem ss_for (hi : SI S T tg iter fi) (hg : SG S T tg vs gf) (hb : SSs S T sts s1) (hs : ∀ env x, foldedSetIterable iter env x = pure x := by intro _ _; rfl) : SS S T (.For tg iter sts [] pos) (sFor fi gf s1) := fun X g m0 G0 H0 => by
  -- the body, whatever its base
  have hbody : PSs X sts (fun Dn σ H => ∃ m1 G1, tS X.K m1 G1 H0 s1 Dn σ H) := ⟨fun pins s σ H D I h => by
    obtain ⟨m1, G1, h⟩ := h
    exact (hb X g m1 G1 H0).run pins s σ H D I h⟩
  exact (ps_for (by rw [g.xe]; exact PassesOwn.never) g.calm (hi X g) (hg X g) hbody (hs X.env)).imp fun Dn σ H k => for_read (fun m1 G1 Dn σ H h => ⟨m1, G1, h⟩) k
theorem while_read {K : PySem.W.Frag} {m0 : List Addr} {G0 H0 : Hp} {Dn : Ends} {σ : St} {H : Hp} {n : Nat} (h : tS K m0 G0 H0 (sWhile n t s1) Dn σ H) : tWhile (tT K t) (tS K m0 G0 H0 s1) Dn σ H := by
  obtain ⟨ρ, cs, m, G, x, W, E, F⟩ := h
  refine ⟨fun k σ' H' => ∃ ρ' cs2 m2 G2, Ext m0 G0 H0 m2 G2 H' ∧ Wf K m2 G2 H' cs2 ∧ EnvS K m2 G2 H' H0 ρ' σ' ∧ Post K m0 G0 H0 (whileL t s1 k ρ' cs2) (fun fl _ m' G' H'' => FlP K H0 Dn fl m' G' H''),
    ⟨n, ρ, cs, m, G, x, W, E, F⟩, ?_⟩
  rintro k σ2 H2 ⟨ρ2, cs2, m2, G2, x2, W2, E2, F2⟩
  cases k with
  | zero => exact F2.elim
  | succ k =>
    have F2 : Post K m0 G0 H0 ((t ρ2 >>= fun c => if c = true then s1 ρ2 >>= fun fl => match fl with
        | .nx ρ2 => whileL t s1 k ρ2
        | .ct ρ2 => whileL t s1 k ρ2
        | .bk ρ2 => pure (.nx ρ2)
        | .rt d => pure (.rt d)
      else pure (.nx ρ2)) cs2) _ := F2
    refine ⟨ρ2, cs2, m2, G2, W2, E2.e, (F2.bindB m2 G2 H2).imp fun c cs3 m3 G3 H3 x3 W3 F3 => ?_⟩
    cases c with
    | true =>
      refine iteT ⟨fun σ' H' => ∃ ρ' cs4 m4 G4, Ext m0 G0 H0 m4 G4 H' ∧ Wf K m4 G4 H' cs4 ∧ EnvS K m4 G4 H' H0 ρ' σ' ∧ Post K m0 G0 H0 (whileL t s1 k ρ' cs4) (fun fl _ m' G' H'' => FlP K H0 Dn fl m' G' H''),
        fun σ' H' z => ⟨k, Nat.lt_succ_self k, z⟩, ρ2, cs3, m3, G3, x2.trans x3, W3, E2.ext x3, ?_⟩
      refine (Post.bindB F3 m0 G0 H0).imp fun fl cs5 m5 G5 H5 x5 W5 F5 => ?_
      cases fl with
      | nx ρ5 => exact fun σ5 E5 => ⟨ρ5, cs5, m5, G5, x5, W5, E5, F5⟩
      | ct ρ5 => exact fun σ5 E5 => ⟨ρ5, cs5, m5, G5, x5, W5, E5, F5⟩
      | bk ρ5 => exact Post.now F5 x5 W5
      | rt d => exact Post.now F5 x5 W5
    | false => exact iteF (Post.now F3 (x2.trans x3) W3 σ2 (E2.ext x3))
theorem ss_while (n : Nat) (h : ST S T c t) (hb : SSs S T sts s1) : SS S T (.While c sts [] pos) (sWhile n t s1) := fun X g m0 G0 H0 =>
  (ps_while (by rw [g.xe]; exact PassesOwn.never) (h X g) (hb X g m0 G0 H0)).imp fun Dn σ H k => while_read k
end
end RP
end

section
set_option Elab.async false
set_option linter.all false
set_option maxRecDepth 100000
set_option autoImplicit false
/-! RpS11: defs, the table of all of them, the law's end. -/
namespace RP
open PySem PySem.Spec PyProof.Rows L2

/-- the table at level k -/
structure TabOk (P : Program) (w : World) (K : PySem.W.Frag) (mg : Str → Option Value) (base : Heap) (k : Nat) (T : Tab) : Prop where
  blt : ∀ x ∈ bltNames, mg x = none
  gl : ∀ p ∈ T.gl, ∃ v u, mg p.1 = some u ∧ RelV v u ∧ (∀ m G, Rel K m G p.2 v) ∧ GlT K p.2 v
  fn : ∀ p ∈ T.fn, ∃ (f : Addr) (fd : FuncData) (ps : List Str), FnOk P w K mg base CX0 k f fd ps (prom K ps.length p.2) ∧ mg p.1 = some (.ref f) ∧ PySem.W.keepIn K (.ref f) = true ∧ Binds K fd ps [] ∧
    ∀ ds cs r cs', p.2 ds cs = .ok r cs' → ds.length = ps.length
theorem good_of {P : Program} {w : World} {K : PySem.W.Frag} {mg : Str → Option Value} {base : Heap} {k : Nat} {T : Tab} {S : SCtx} {X : Cx} (t : TabOk P w K mg base k T) (hP : X.prog = P) (hw : X.w = w) (hK : X.K = K) (hmg : X.mg = mg) (hb : X.base = base)
    (hr : Room k X.A) (hN : X.N = S.N) (hsc : X.env.scope = S.sc) (nd : X.N.Nodup) (calm : X.calm = true) (xe : X.xe = fun _ _ => False) (fnc : ∀ x, S.fnB x = true → X.fn x = true) : Good S T X := by
  subst hP hw hK hmg hb
  refine ⟨hN, hsc, nd, calm, xe, ?_, t.blt, fun i x d h => t.gl (x, d) (List.mem_of_getElem? h), fun i x c h => ?_, fnc⟩
  · have := hr.un; omega
  · obtain ⟨f, fd, ps, h1, h2, h3, h4, h5⟩ := t.fn (x, c) (List.mem_of_getElem? h)
    exact ⟨k, f, fd, ps, h1, hr, h2, h3, h4, h5⟩
theorem start_env {K : PySem.W.Frag} {m : List Addr} {G H H0 : Hp} {N : List Str} {ds : List D} {vs : List V} (r : Rels K m G ds vs) : EnvS K m G H H0 (ds.map Sl.va ++ List.replicate (N.length - ds.length) Sl.no) (L2.start N vs) := by
  have q : ∀ (i : Nat) (s : Sl), (ds.map Sl.va ++ List.replicate (N.length - ds.length) Sl.no)[i]? = some s → (∃ d, s = .va d ∧ ds[i]? = some d) ∨ s = .no := fun i s h => by
    by_cases hi : i < ds.length
    · rw [List.getElem?_append_left (by rw [List.length_map]; exact hi), List.getElem?_map] at h
      cases e : ds[i]? with
      | none => rw [e] at h; cases h
      | some d => rw [e] at h; cases h; exact .inl ⟨d, rfl, rfl⟩
    · rw [List.getElem?_append_right (by rw [List.length_map]; omega), List.getElem?_replicate] at h
      split at h
      · cases h; exact .inr rfl
      · cases h
  refine ⟨⟨?_, fun i s h => ?_, fun i j xs ys _ h1 h2 => ?_⟩, fun i xs h => ?_⟩
  · unfold L2.start
    rw [List.length_append, List.length_append, List.length_map, List.length_map, List.length_replicate, List.length_replicate, r.length]
  · rcases q i s h with ⟨d, rfl, hd⟩ | rfl
    · obtain ⟨v, hv, rv⟩ := r.get' hd
      have hi : i < vs.length := (List.getElem?_eq_some_iff.mp hv).1
      refine ⟨some v, ?_, v, rfl, rv⟩
      unfold L2.start
      rw [List.getElem?_append_left (by rw [List.length_map]; exact hi), List.getElem?_map, hv]
      rfl
    · have hi : i < (ds.map Sl.va ++ List.replicate (N.length - ds.length) Sl.no).length := (List.getElem?_eq_some_iff.mp h).1
      have hi2 : i < (L2.start N vs).length := by
        unfold L2.start
        rw [List.length_append, List.length_map, List.length_replicate, ← r.length]
        rw [List.length_append, List.length_map, List.length_replicate] at hi
        exact hi
      exact ⟨_, List.getElem?_eq_getElem hi2, trivial⟩
  · rcases q i _ h1 with ⟨d, e, _⟩ | e <;> cases e
  · rcases q i _ h with ⟨d, e, _⟩ | e <;> cases e
section
variable {P : Program} {w : World} {K : PySem.W.Frag} {mg : Str → Option Value} {base : Heap}
theorem runB_len {np n : Nat} {b : SF} {ds : List D} {cs cs' : Cells} {r : D} (h : runB np n b ds cs = .ok r cs') : ds.length = np := by
  unfold runB at h
  by_cases e : ds.length = np
  · exact e
  · rw [if_neg e] at h; cases h
/-- a def by its body -/
theorem fn_ok {name qual : Str} {st : Stmt} {f : Addr} {fd : FuncData} {N ps : List Str} {k : Nat} {T : Tab} {b : SF} (F : L2.Fun K name qual st f fd) (Sc : FnScope N ps (defScope st)) (hb : SSs ⟨N, defScope st, fun _ => true⟩ T (defBody st) b) (t : TabOk P w K mg base k T) :
    FnOk P w K mg base CX0 (k + 1) f fd ps (prom K ps.length (runB ps.length N.length b)) := by
  refine F.ok Sc (fun vs H Q E h => ?_) (fun cdv A outer s H vs Q E hr h => ?_)
  · obtain ⟨cs, m, G, ds, W, r, hl, _⟩ := h
    exact hl
  · obtain ⟨cs, m, G, ds, W, r, hl, F⟩ := h
    refine ⟨_, hb _ (good_of (X := (cxOf CX0 P w K mg base N qual (defScope st) f cdv A outer s H E).nox) t rfl rfl rfl rfl rfl hr rfl rfl Sc.nd rfl rfl (fun _ _ => rfl)) m G H, ?_⟩
    have hd : ds.length = ps.length := by rw [r.length]; exact hl
    refine ⟨_, cs, m, G, Ext.refl m G H, W, start_env r, ?_⟩
    unfold runB at F
    rw [if_pos hd] at F
    refine (Post.bindB F m G H).imp fun fl cs1 m1 G1 H1 x1 W1 F1 => ?_
    cases fl with
    | nx ρ1 => exact fun σ1 E1 => Post.now F1 x1 W1 _ .non
    | rt d => exact Post.now F1 x1 W1
    | bk _ => exact F1.elim
    | ct _ => exact F1.elim
theorem fn_zero {f : Addr} {fd : FuncData} {ps : List Str} {k : Nat} : FnOk P w K mg base CX0 k f fd ps (prom K ps.length (fun _ => M.bad)) :=
  ⟨fun vs H Q E h => by obtain ⟨cs, m, G, ds, W, r, hl, _⟩ := h; exact hl, fun A outer s H args us vs Q E hr e0 hb hv h => by
    obtain ⟨cs, m, G, ds, W, r, hl, F⟩ := h
    exact F.elim⟩
/-- one def of the text: its name, its place, its names, what is known of it -/
structure DefF (K : PySem.W.Frag) (mg : Str → Option Value) (name : Str) (st : Stmt) (N ps : List Str) : Prop where
  ex : ∃ (f : Addr) (fd : FuncData), L2.Fun K name name st f fd ∧ mg name = some (.ref f) ∧ Binds K fd ps []
  sc : FnScope N ps (defScope st)
/-- a row of the table, one level higher -/
theorem row_succ {name : Str} {st : Stmt} {N ps : List Str} {k : Nat} {T : Tab} {b : SF} (F : DefF K mg name st N ps) (hb : SSs ⟨N, defScope st, fun _ => true⟩ T (defBody st) b) (t : TabOk P w K mg base k T) (np nn : Nat) (hp : ps.length = np) (hn : N.length = nn) :
    ∃ (f : Addr) (fd : FuncData) (ps : List Str), FnOk P w K mg base CX0 (k + 1) f fd ps (prom K ps.length (runB np nn b)) ∧ mg name = some (.ref f) ∧ PySem.W.keepIn K (.ref f) = true ∧ Binds K fd ps [] ∧
    ∀ ds cs r cs', runB np nn b ds cs = .ok r cs' → ds.length = ps.length := by
  subst hp hn
  obtain ⟨f, fd, h1, h2, h3⟩ := F.ex
  exact ⟨f, fd, ps, fn_ok h1 F.sc hb t, h2, h1.kp, h3, fun ds cs r cs' h => runB_len h⟩
theorem row_zero {name : Str} {st : Stmt} {N ps : List Str} (F : DefF K mg name st N ps) :
    ∃ (f : Addr) (fd : FuncData) (ps : List Str), FnOk P w K mg base CX0 0 f fd ps (prom K ps.length (fun _ => M.bad)) ∧ mg name = some (.ref f) ∧ PySem.W.keepIn K (.ref f) = true ∧ Binds K fd ps [] ∧
    ∀ ds cs r cs', (fun _ => M.bad : List D → M D) ds cs = .ok r cs' → ds.length = ps.length := by
  obtain ⟨f, fd, h1, h2, h3⟩ := F.ex
  exact ⟨f, fd, ps, fn_zero, h2, h1.kp, h3, fun ds cs r cs' h => by cases h⟩
theorem all_nil {α : Type} {p : α → Prop} : ∀ x ∈ ([] : List α), p x := fun x h => by cases h
theorem all_cons {α : Type} {p : α → Prop} {a : α} {l : List α} (h : p a) (hl : ∀ x ∈ l, p x) : ∀ x ∈ a :: l, p x := fun x hx => (List.mem_cons.mp hx).elim (fun e => e ▸ h) (hl x)
end
/-- what the law's own call comes to -/
theorem law_sp {K : PySem.W.Frag} {c : List D → M D} (h : ∀ ns : List Int, ns.length ≤ 63 → ∃ cs', c [.scr (ns.map D.int)] [] = .ok (.bl true) cs') (H : Hp) (a : Addr) (ns : List Int) (hl : ns.length ≤ 63) (hs : SqL K H a (ns.map V.int)) :
    prom K 1 c [.ref a] H (fun v _ => v = .bl true) (fun _ _ _ => False) := by
  obtain ⟨cs', e⟩ := h ns hl
  refine ⟨[], [], H, [.scr (ns.map D.int)], ⟨Same.refl H, rfl, fun n ds a h => (by simp at h), fun a h => (by cases h), List.nodup_nil⟩, .cons (.scr hs ?_) .nil, rfl, ?_⟩
  · clear hs hl e
    induction ns with
    | nil => exact .nil
    | cons n ns ih => exact .cons (.int n) ih
  · rw [e]
    intro m' G' H' x W v r
    cases r
    rfl
end RP
end

section
set_option Elab.async false
set_option linter.all false
set_option maxRecDepth 100000
set_option autoImplicit false
set_option maxHeartbeats 1000000
/-! RpX1: enumerate over tuples, zip with its length. -/
namespace PySem
open Sem (wp)
open AutoSeq1 (wpAny_loadPart')
theorem rp_enumerate_newT (l : Addr) (items : Array Value) (n : Nat) (dct : Option Addr) (sl : Array (Option Value)) :
    Meets (Builtin.«enumerate.__new__» ⟨[.type "enumerate", .ref l], []⟩) (fun _ R s => s.heap.get? l = some { cls := .type "tuple", dict := dct, data := .seq items n, slots := sl } ∧
      R (.ok (.ret (.ref (s.heap.push { cls := .type "tuple_iterator", data := .fields #[.ref l, .int 0 0] }).objs.size)))
        { s with heap := (s.heap.push { cls := .type "tuple_iterator", data := .fields #[.ref l, .int 0 0] }).push { cls := .type "enumerate", data := .fields #[.none, .bool false, .ref s.heap.objs.size, rawInt 0, .none, .none] } }) :=
  .of_wp fun prog w A R s h => by
    obtain ⟨hp, g, d, tk, os⟩ := s; obtain ⟨hl, h⟩ := h
    have hsub := sub_enumerate
    have hL : Heap.IsTuple (Shared.heap ⟨hp, g, d, tk, os⟩) l items := ⟨_, hl, rfl, n, rfl⟩
    wp_walk using wpAny_loadPart' hl
    refine wpAny_stack_any fun st => wpAny_pure ?_
    split
    · rename_i c _ _ _ _ _
      cases (c == Value.type "enumerate")
      · wp_walk using wpAny_loadPart' hl, wpAny_pyIter_tuple hL
        exact ⟨_, rfl, h⟩
      · wp_walk using wpAny_loadPart' hl, wpAny_pyIter_tuple hL
        exact ⟨_, rfl, h⟩
    · wp_walk using wpAny_loadPart' hl, wpAny_pyIter_tuple hL
      exact ⟨_, rfl, h⟩
section
variable {prog : Program} {w : World} {A : Around} {E : Value → Shared → Prop} {s : Shared}
theorem rp_call_enumerate_tuple {l : Addr} {items : Array Value} {Q : Value → Shared → Prop} (hL : s.heap.IsTuple l items)
    (h : ∀ h', IsEnum h' (s.heap.objs.size + 1) s.heap.objs.size 0 .none → h'.IsTupleIter s.heap.objs.size l 0 → h'.objs.size = s.heap.objs.size + 2 →
      (∀ b o, s.heap.get? b = some o → h'.get? b = some o) → Q (.ref (s.heap.objs.size + 1)) { s with heap := h' }) :
    wpAny (model prog w) A (call (.type "enumerate") [.ref l]) Q E s := by
  obtain ⟨⟨c, dct, dt, sl⟩, hl, hc, n, hd⟩ := hL
  replace hc : c = .type "tuple" := hc
  replace hd : dt = .seq items n := hd
  subst hc hd
  refine callType_new F.called_enumerate (by decide) (F.typeCall_enumerate_1 _) (F.newCall_enumerate_1 _) (fun obj => F.args_object_init_2 obj _) F.entry_enumerate_new
    (rp_enumerate_newT l items n dct sl) ⟨hl, ?_⟩
  have hz : (s.heap.push { cls := .type "tuple_iterator", data := .fields #[.ref l, .int 0 0] }).objs.size = s.heap.objs.size + 1 := Heap.size_push ..
  show _ ∧ _
  rw [hz]
  have he : IsEnum ((s.heap.push { cls := .type "tuple_iterator", data := .fields #[.ref l, .int 0 0] }).push
      { cls := .type "enumerate", data := .fields #[.none, .bool false, .ref s.heap.objs.size, rawInt 0, .none, .none] }) (s.heap.objs.size + 1) s.heap.objs.size 0 .none := by
    have := Heap.get?_push_size (s.heap.push { cls := .type "tuple_iterator", data := .fields #[.ref l, .int 0 0] })
      (o := { cls := .type "enumerate", data := .fields #[.none, .bool false, .ref s.heap.objs.size, rawInt 0, .none, .none] }) rfl
    rw [hz] at this; exact this
  refine ⟨⟨_, he, rfl⟩, h _ he ⟨_, Heap.get?_push_of_some _ (Heap.get?_push_size _ rfl), rfl, rfl⟩ (by rw [Heap.size_push, hz]) fun b o x => Heap.get?_push_of_some _ (Heap.get?_push_of_some _ x)⟩
end
end PySem
namespace RP
open PySem PySem.Spec PyProof.Rows L2
/-- enumerate of the tuple at a -/
def IteT (K : PySem.W.Frag) (a : Addr) : It :=
  ⟨fun i H => ∃ (xs : List V) (x : V), SqT K H a xs ∧ xs[i]? = some x, fun i H v H' => ∃ T x, v = .ref T ∧ H T = none ∧ H' = upd H T (.tup [.int (i : Nat), x]) ∧ ∀ xs, SqT K H a xs → xs[i]? = some x, fun i H => ∃ xs : List V, SqT K H a xs ∧ xs.length = i⟩
theorem turn_enumT {P : Program} {w : World} {K : PySem.W.Frag} {elts : List Expr} {kk : Nat} {tpos : Pos} (a e it : Addr) :
    Turn P w K (.Tuple elts kk tpos) (IteT K a) [e, it] e (fun i h => (∃ old, IsEnum h e it ((i : Nat) : Int) old) ∧ h.IsTupleIter it a i ∧ e ≠ it ∧ a ≠ it ∧ e ≠ a) where
  mem := by simp
  obj := fun i h st b hb => by
    obtain ⟨⟨old, he⟩, ⟨o, ho, hc, hd⟩, _⟩ := st
    have e' : b = e ∨ b = it := by simpa using hb
    rcases e' with z | z
    · rw [z]; exact ⟨_, he, fun v q => nomatch q⟩
    · rw [z]; exact ⟨o, ho, fun v q => by rw [hd] at q; cases q⟩
  keep := fun i h h' st k => let ⟨⟨old, he⟩, hi, hne⟩ := st; ⟨⟨old, k e (by simp) _ he⟩, hi.at fun o q => k it (by simp) o q, hne⟩
  item := by
    intro X hP hw hK hc i pins s σ H E I hf st hg
    subst hP hw hK
    obtain ⟨⟨old, he⟩, hit, hne, hai, hea⟩ := st
    obtain ⟨xs, x, hq, hx⟩ := hg
    obtain ⟨its, rv, p, hz⟩ := I.tuple hq
    obtain ⟨u, hu, ru⟩ := rv.get hx
    have hel : e < s.heap.objs.size := Heap.lt_size he
    have hil : it < s.heap.objs.size := by obtain ⟨_, q, _⟩ := hit; exact Heap.lt_size q
    have hsz : i < its.toArray.size := by
      rw [List.size_toArray]
      exact (List.getElem?_eq_some_iff.mp hu).1
    have hD : Draws X.prog X.w X.A.in1 it [it, a] its.toArray.size _ _ := Draws.tuple (A := X.A.in1) (I.ok.hd hc) it a hai its.toArray
    refine wpAny_pyNext_enum_itemD hD he ⟨hit, show s.heap.IsTuple a its.toArray from p⟩ hsz hne (by simp only [List.mem_cons, List.not_mem_nil, or_false, not_or]; exact ⟨hne, hea⟩) fun u' h' tk hu' ho hst' hT hsz hk => ?_
    have euu : u' = u := by
      have h1 : its.toArray[i]? = some u' := hu'
      have h2 : its.toArray[i]? = some u := by simpa using hu
      rw [h2] at h1
      exact (Option.some.inj h1).symm
    subst euu
    have hit' := hst'.1
    refine ⟨_, rfl, wpAny_letOwnedTupleGo_enum (s := { s with heap := h', toks := tk + 1 }) ho fun h'' he' sb => ?_⟩
    have hT2 : h''.get? s.heap.objs.size = some { cls := .type "tuple", data := .seq #[.int i tk, u'] } := (sb.2 _ (Nat.ne_of_gt hel)).trans hT
    have new : ObjOk X.prog X.w (upd H s.heap.objs.size (.tup [.int (i : Nat), x])) h'' s.heap.objs.size (.tup [.int (i : Nat), x]) :=
      ⟨by show 2 ≤ sizeLine; decide, [.int i tk, u'], .cons ⟨_, rfl⟩ (.cons ru .nil), ⟨_, hT2, rfl, _, rfl⟩⟩
    have I1 : Inv X pins σ (upd H s.heap.objs.size (.tup [.int (i : Nat), x])) { s with heap := h'', toks := tk + 1 } :=
      I.turnedNew (ch := [e, it]) (fun b ob hb q => (sb.2 b (fun z => hb (by simp [z]))).trans (hk b ob (fun z => hb (by simp [z])) (fun z => hb (by simp [z])) q)) hf (Nat.le_refl _) new
    refine ⟨.ref s.heap.objs.size, _, I1, rfl, ⟨_, x, rfl, I.hok.fresh (Nat.le_refl _), rfl, fun ys hy => by rw [I.tuple_inj hy hq]; exact hx⟩, ⟨⟨u', ?_⟩, hit'.at fun o q => (sb.2 it (Ne.symm hne)).trans q, hne, hai, hea⟩, fun b hb => ?_⟩
    · have e1 : ((i + 1 : Nat) : Int) = (i : Int) + 1 := by omega
      rw [e1]; exact he'
    · have hb' : b < s.heap.objs.size := by
        have e' : b = e ∨ b = it := by simpa using hb
        rcases e' with z | z
        · rw [z]; exact hel
        · rw [z]; exact hil
      rw [upd_ne (Nat.ne_of_lt hb')]
      exact (hf b hb).1
  done := by
    intro X hP hw hK hc i pins s σ H E I hf st hg
    subst hP hw hK
    obtain ⟨⟨old, he⟩, hit, hne, hai, hea⟩ := st
    obtain ⟨xs, hq, hx⟩ := hg
    obtain ⟨its, rv, p, hz⟩ := I.tuple hq
    obtain ⟨f0, f1, f2, f3, f4, f5⟩ := hf it (by simp)
    have hD : Draws X.prog X.w X.A.in1 it [it, a] its.toArray.size _ _ := Draws.tuple (A := X.A.in1) (I.ok.hd hc) it a hai its.toArray
    have hn : its.toArray.size = i := by rw [List.size_toArray, ← rv.length]; exact hx
    refine wpAny_pyNext_enum_endD hD he ⟨by rw [hn]; exact hit, show s.heap.IsTuple a its.toArray from p⟩ fun h' eb => ⟨rfl, I.turned (t' := s.toks) (fun b o hb q => eb b o hb q) f0 f1 f3 f4 f5⟩
  self := fun A i s Q E st h => let ⟨⟨_, he⟩, _⟩ := st; wpAny_pyIter_enum he h

section
variable {S : SCtx} {T : Tab} {tg e a b c : Expr} {es elts : List Expr} {pos p tpos : Pos} {f fa fb fc : EF} {fs : AF} {t u : TF} {vs : List Nat} {gf : GF} {gs : List GF} {kk : Nat}
theorem enumFromD_get : ∀ (xs : List D) (n i : Nat) (x : D), xs[i]? = some x → (enumFromD n xs)[i]? = some (.tup [.int ((n + i : Nat) : Int), x])
  | [], _, _, _, h => by simp at h
  | y :: ys, n, 0, x, h => by
    have e := Option.some.inj h
    subst e
    rfl
  | y :: ys, n, i + 1, x, h => by
    have := enumFromD_get ys (n + 1) i x h
    rw [show n + 1 + i = n + (i + 1) by omega] at this
    exact this
theorem enumFromD_len : ∀ (xs : List D) (n : Nat), (enumFromD n xs).length = xs.length
  | [], _ => rfl
  | x :: xs, n => by
    show (enumFromD (n + 1) xs).length + 1 = xs.length + 1
    rw [enumFromD_len xs]
theorem pair_walk {K : PySem.W.Frag} {m : List Addr} {G H : Hp} {cs : Cells} (W : Wf K m G H cs) {T : Addr} (hT : H T = none) {d1 d2 : D} {v1 v2 : V} (r1 : Rel K m G d1 v1) (r2 : Rel K m G d2 v2) : ∃ G', Ext m G H m G' (upd H T (.tup [v1, v2])) ∧ Wf K m G' (upd H T (.tup [v1, v2])) cs ∧ Rel K m G' (.tup [d1, d2]) (.ref T) :=
  ⟨upd G T (.tup [v1, v2]), Ext.new hT W.sub, W.new hT, .tup (SqT.of upd_same) (Rels.mono (Pre.refl m) (Same.fix (W.noG hT)) (.cons r1 (.cons r2 .nil)))⟩
theorem walk_enumL {K : PySem.W.Frag} {a : Addr} {vs : List V} {ds : List D} {L : List Addr → Hp → Hp → Prop} (h : ∀ m G H cs, L m G H → Wf K m G H cs → SqL K H a vs ∧ Rels K m G ds vs) : Walk K (Ite K a) (enumFromD 0 ds) L := fun m G H cs i l W => by
  obtain ⟨h1, h2⟩ := h m G H cs l W
  rw [enumFromD_len]
  refine ⟨fun hi => ?_, fun hi => ⟨vs, h1, by rw [← h2.length]; omega⟩, fun x H' y d hd => ?_⟩
  · have hi' : i < vs.length := by rw [← h2.length]; exact hi
    exact ⟨vs, vs[i], h1, List.getElem?_eq_getElem hi'⟩
  · obtain ⟨T, v, rfl, hT, rfl, y⟩ := y
    have hv := y vs h1
    obtain ⟨d', hd', rv⟩ := h2.get hv
    have := enumFromD_get ds 0 i d' hd'
    rw [hd] at this
    have e := Option.some.inj this
    subst e
    rw [Nat.zero_add]
    exact pair_walk W hT (.int _) rv
theorem walk_enumT {K : PySem.W.Frag} {a : Addr} {vs : List V} {ds : List D} {L : List Addr → Hp → Hp → Prop} (h : ∀ m G H cs, L m G H → Wf K m G H cs → SqT K H a vs ∧ Rels K m G ds vs) : Walk K (IteT K a) (enumFromD 0 ds) L := fun m G H cs i l W => by
  obtain ⟨h1, h2⟩ := h m G H cs l W
  rw [enumFromD_len]
  refine ⟨fun hi => ?_, fun hi => ⟨vs, h1, by rw [← h2.length]; omega⟩, fun x H' y d hd => ?_⟩
  · have hi' : i < vs.length := by rw [← h2.length]; exact hi
    exact ⟨vs, vs[i], h1, List.getElem?_eq_getElem hi'⟩
  · obtain ⟨T, v, rfl, hT, rfl, y⟩ := y
    have hv := y vs h1
    obtain ⟨d', hd', rv⟩ := h2.get hv
    have := enumFromD_get ds 0 i d' hd'
    rw [hd] at this
    have e := Option.some.inj this
    subst e
    rw [Nat.zero_add]
    exact pair_walk W hT (.int _) rv
theorem pi_enums {X : Cx} {e : Expr} {ta : TA} (hg : Gl X "enumerate") (hm : X.mg "enumerate" = none) (ha : PA X [e] ta) (hs : starEach [e] X.env = [(false, eval e X.env)]) :
    PI X (.Tuple elts kk tpos) (.Call (.Name "enumerate" p) [e] [] pos) (fun σ H R => ta σ H fun vs H1 => ∃ a xs, vs = [.ref a] ∧ ((SqL X.K H1 a xs ∧ (xs.length ≤ sizeLine → R (Ite X.K a) H1)) ∨ (SqT X.K H1 a xs ∧ (xs.length ≤ sizeLine → R (IteT X.K a) H1)))) := by
  refine ⟨fun pins s σ H R I h => ?_⟩
  refine Call_ (ld_blt I hg hm boot_enumerate (PyProof.Rows.callWith_type1 (thn (ha.run pos pins s σ H _ I h) fun us s1 ⟨vs, H1, I1, r1, q1⟩ => ?_) hs rfl))
  obtain ⟨a, xs, ex, q1⟩ := q1
  subst ex
  cases r1 with
  | cons r rr =>
    cases rr
    cases r
    have fp : ∀ b ∈ [s1.heap.objs.size + 1, s1.heap.objs.size], FpOk X pins H1 b := fun b hb => by
      have e' : b = s1.heap.objs.size + 1 ∨ b = s1.heap.objs.size := by simpa using hb
      have hle : s1.heap.objs.size ≤ b := by
        rcases e' with z | z
        · rw [z]; exact Nat.le_add_right _ _
        · rw [z]; exact Nat.le_refl _
      exact I1.fpOk hle (I1.hok.fresh hle)
    rcases q1 with ⟨hq, q⟩ | ⟨hq, q⟩
    · obtain ⟨its, rv, p', hz⟩ := I1.list hq
      refine call_enumerate_list p'.isList fun h' he hit hsz hk => wpAny_pyIter_enum he ?_
      have I2 : Inv X pins σ H1 { s1 with heap := h' } := I1.kept (t' := s1.toks) hk
      exact ⟨s1.heap.objs.size + 1, [s1.heap.objs.size + 1, s1.heap.objs.size], _, _, H1, rfl, I2, turn_enum a (s1.heap.objs.size + 1) s1.heap.objs.size, ⟨⟨.none, he⟩, hit, Nat.succ_ne_self _⟩, fp, q hz⟩
    · obtain ⟨its, rv, p', hz⟩ := I1.tuple hq
      have hlt : a < s1.heap.objs.size := by obtain ⟨o, ho, _⟩ := p'; exact Heap.lt_size ho
      refine rp_call_enumerate_tuple (show s1.heap.IsTuple a its.toArray from p') fun h' he hit hsz hk => wpAny_pyIter_enum he ?_
      have I2 : Inv X pins σ H1 { s1 with heap := h' } := I1.kept (t' := s1.toks) hk
      exact ⟨s1.heap.objs.size + 1, [s1.heap.objs.size + 1, s1.heap.objs.size], _, _, H1, rfl, I2, turn_enumT a (s1.heap.objs.size + 1) s1.heap.objs.size, ⟨⟨.none, he⟩, hit, Nat.succ_ne_self _, Nat.ne_of_lt hlt, (Nat.ne_of_lt (Nat.lt_succ_of_lt hlt)).symm⟩, fp, q hz⟩
theorem si_enum (h : SE S T a fa) (hg : glB S "enumerate" = true := by decide +kernel) (hn : noStar a = true := by rfl) : SI S T (.Tuple elts kk tpos) (.Call (.Name "enumerate" p) [a] [] pos) (lCall enumD (aCons fa aNil)) := fun X g => by
  obtain ⟨q1, q2, q3⟩ := glG g hg
  refine (pi_enums q1 (g.blt "enumerate" (by decide +kernel)) ((sa_cons h sa_nil hn).run X g) (by rw [star_cons hn]; rfl)).imp fun σ H R ⟨ρ, cs, m, G, W, E, F⟩ => ?_
  refine ⟨ρ, cs, m, G, W, E, F.bind.imp fun xs cs1 m1 G1 H1 x1 W1 F1 vs rvs => ?_⟩
  unfold enumD at F1
  split at F1
  · cases rvs with
    | cons r rr =>
      cases rr
      cases r with
      | @lst a' ws _ hl rr =>
        exact ⟨a', ws, rfl, .inl ⟨SqL.of (W1.sub _ _ hl), fun hz => Post.pure W1 F1 (by rw [enumFromD_len, rr.length, LIM_eq]; exact hz) _ (walk_enumL fun m G H cs l W => ⟨SqL.of (W.sub _ _ (l.2 _ _ hl)), Rels.mono l.1 l.2 rr⟩)⟩⟩
  · cases rvs with
    | cons r rr =>
      cases rr
      cases r with
      | @tup a' ws _ hl rr =>
        exact ⟨a', ws, rfl, .inr ⟨Same.seqT W1.sub hl, fun hz => Post.pure W1 F1 (by rw [enumFromD_len, rr.length, LIM_eq]; exact hz) _ (walk_enumT fun m G H cs l W => ⟨Same.seqT W.sub (Same.seqT l.2 hl), Rels.mono l.1 l.2 rr⟩)⟩⟩
  · exact F1.elim
end
end RP
end

section
set_option Elab.async false
set_option linter.all false
set_option maxRecDepth 100000
set_option autoImplicit false
set_option maxHeartbeats 1000000
/-! RpX2: zip over lists and tuples, walked and made a list. -/
namespace PySem
open Sem (wp)
section
variable {prog : Program} {w : World} {A : Around} {E : Value → Shared → Prop} {s : Shared} {z TI TO i1 i2 : Addr} {fp1 fp2 : List Addr} {n1 n2 i : Nat} {P1 P2 : Nat → Value → Prop} {St1 St2 : Nat → Heap → Prop}

theorem rp_zipH_next_item {T : Addr} {f : Bool} {oT : Obj} {Q : Value → Shared → Prop} (S : ZipSep2 z TI TO i1 i2 fp1 fp2) (D1 : Draws prog w A i1 fp1 n1 P1 St1) (D2 : Draws prog w A i2 fp2 n2 P2 St2)
    (hz : IsZipHeld s.heap z TI TO T f) (hT : s.heap.get? T = some oT) (hTI : IsTupOf2 s.heap TI (.ref i1) (.ref i2)) (st1 : St1 i s.heap) (st2 : St2 i s.heap) (hlt1 : i < n1) (hlt2 : i < n2)
    (hQ : ∀ x1 x2 h' tk, P1 i x1 → P2 i x2 → IsZipHeld h' z TI TO T true → St1 (i + 1) h' → St2 (i + 1) h' → IsTupOf2 h' s.heap.objs.size x1 x2 → h'.objs.size = s.heap.objs.size + 1 →
      (∀ c o, c ≠ z → c ≠ i1 → c ≠ i2 → s.heap.get? c = some o → h'.get? c = some o) → Q (.ref s.heap.objs.size) { s with heap := h', toks := tk }) :
    wpAny (model prog w) A (Builtin.«zip.__next__» ⟨[.ref z], []⟩) (fun fin s' => ∃ v, fin = .done (.ret v) ∧ Q v s') E s := by
  obtain ⟨hp, g, d, tk0, os⟩ := s
  show wpAny _ _ (field (.ref z) 2 >>= _) _ _ _
  refine wpAny_bind (wpAny_field hz rfl (x := .bool false) rfl ?_)
  show wpAny _ _ (field (.ref z) 3 >>= _) _ _ _
  refine wpAny_bind (wpAny_field hz rfl (x := .ref TI) rfl ?_)
  refine wpAny_bind (wpAny_seqItems hTI rfl ?_)
  show wpAny _ _ (Builtin.SmallTypes.ownedTupleIsFree (.ref z) >>= _) _ _ _
  refine wpAny_bind (wpAny_tupleHeld_zip hz hT fun h₁ hz₁ hs₁ => ?_)
  simp only [Bool.false_eq_true, if_false]
  refine wpAny_bind ?_
  rw [← Array.forIn_toList]
  simp only [List.forIn_cons, List.forIn_nil]
  refine wpAny_bind (wpAny_bind (wpAny_holding ?_))
  show wpAny _ _ (Builtin.SmallTypes.nextOf (.ref i1) >>= _) _ _ ⟨h₁, g, d, tk0, os⟩
  replace hs₁ : Heap.SameBut z hp h₁ := hs₁
  refine wpAny_bind (D1.item i _ _ _ hlt1 (D1.over st1 hs₁ S.zf1) fun x1 h₂ tk1 hx1 sn1 hs₂ => wpAny_pure ?_)
  replace hs₂ : Heap.SameBut i1 h₁ h₂ := hs₂
  refine wpAny_pure ?_
  refine wpAny_bind (wpAny_bind (wpAny_holding ?_))
  show wpAny _ _ (Builtin.SmallTypes.nextOf (.ref i2) >>= _) _ _ ⟨h₂, g, d, tk1, os⟩
  refine wpAny_bind (D2.item i _ _ _ hlt2 (D2.over (D2.over st2 hs₁ S.zf2) hs₂ S.sep1_2) fun x2 h₃ tk2 hx2 sn2 hs₃ => wpAny_pure ?_)
  replace hs₃ : Heap.SameBut i2 h₂ h₃ := hs₃
  refine wpAny_pure (wpAny_pure ?_)
  show wpAny _ _ (newTuple [x1, x2] >>= _) _ _ _
  refine wpAny_bind (wpAny_newTuple ?_)
  have hsz : h₃.objs.size = hp.objs.size := by rw [hs₃.1, hs₂.1, hs₁.1]
  have hz₃ : IsZipHeld h₃ z TI TO T true := hs₃.extBut _ _ S.zi2 (hs₂.extBut _ _ S.zi1 hz₁)
  have hk : ∀ c o, c ≠ z → c ≠ i1 → c ≠ i2 → hp.get? c = some o → h₃.get? c = some o := fun c o c1 c2 c3 e => hs₃.extBut _ _ c3 (hs₂.extBut _ _ c2 (hs₁.extBut _ _ c1 e))
  refine wpAny_pure ⟨_, rfl, ?_⟩
  show Q (.ref h₃.objs.size) ⟨h₃.push { cls := .type "tuple", data := .seq #[x1, x2] }, g, d, tk2, os⟩
  have hp' : IsTupOf2 (h₃.push { cls := .type "tuple", data := .seq #[x1, x2] }) h₃.objs.size x1 x2 := Heap.get?_push_size _ rfl
  have hz4 : (h₃.push { cls := .type "tuple", data := .seq #[x1, x2] }).objs.size = h₃.objs.size + 1 := Heap.size_push ..
  rw [hsz] at hp' hz4 ⊢
  have up : ∀ c o, h₃.get? c = some o → (h₃.push { cls := .type "tuple", data := .seq #[x1, x2] }).get? c = some o := fun c o e => Heap.get?_push_of_some _ e
  exact hQ x1 x2 _ tk2 hx1 hx2 (up _ _ hz₃) (D1.frame _ _ _ (D1.over sn1 hs₃ S.sep2_1) fun b hb o e => up b o e) (D2.frame _ _ _ sn2 fun b hb o e => up b o e) hp' hz4 fun c o c1 c2 c3 e => up c o (hk c o c1 c2 c3 e)

theorem rp_zipH_next_end {T : Addr} {f : Bool} {oT : Obj} {Q : Fin → Shared → Prop} (S : ZipSep2 z TI TO i1 i2 fp1 fp2) (D1 : Draws prog w A i1 fp1 n1 P1 St1) (D2 : Draws prog w A i2 fp2 n2 P2 St2)
    (hz : IsZipHeld s.heap z TI TO T f) (hT : s.heap.get? T = some oT) (hTI : IsTupOf2 s.heap TI (.ref i1) (.ref i2)) (st1 : St1 i s.heap) (st2 : St2 i s.heap) (hle1 : i ≤ n1) (hle2 : i ≤ n2) (hend : i = n1 ∨ i = n2)
    (hE : ∀ h' tk e, (∀ c o, c ≠ z → c ≠ i1 → c ≠ i2 → s.heap.get? c = some o → h'.get? c = some o) → (∃ o, h'.get? e = some o ∧ o.cls = .type "StopIteration") → E (.ref e) { s with heap := h', toks := tk }) :
    wpAny (model prog w) A (Builtin.«zip.__next__» ⟨[.ref z], []⟩) Q E s := by
  obtain ⟨hp, g, d, tk0, os⟩ := s
  show wpAny _ _ (field (.ref z) 2 >>= _) _ _ _
  refine wpAny_bind (wpAny_field hz rfl (x := .bool false) rfl ?_)
  show wpAny _ _ (field (.ref z) 3 >>= _) _ _ _
  refine wpAny_bind (wpAny_field hz rfl (x := .ref TI) rfl ?_)
  refine wpAny_bind (wpAny_seqItems hTI rfl ?_)
  show wpAny _ _ (Builtin.SmallTypes.ownedTupleIsFree (.ref z) >>= _) _ _ _
  refine wpAny_bind (wpAny_tupleHeld_zip hz hT fun h₁ hz₁ hs₁ => ?_)
  simp only [Bool.false_eq_true, if_false]
  refine wpAny_bind ?_
  rw [← Array.forIn_toList]
  simp only [List.forIn_cons, List.forIn_nil]
  refine wpAny_bind (wpAny_bind (wpAny_holding ?_))
  show wpAny _ _ (Builtin.SmallTypes.nextOf (.ref i1) >>= _) _ _ ⟨h₁, g, d, tk0, os⟩
  replace hs₁ : Heap.SameBut z hp h₁ := hs₁
  by_cases hlt1 : i < n1
  · refine wpAny_bind (D1.item i _ _ _ hlt1 (D1.over st1 hs₁ S.zf1) fun x1 h₂ tk1 hx1 sn1 hs₂ => wpAny_pure ?_)
    replace hs₂ : Heap.SameBut i1 h₁ h₂ := hs₂
    refine wpAny_pure ?_
    have hi2 : i = n2 := by omega
    refine wpAny_bind (wpAny_bind (wpAny_holding ?_))
    show wpAny _ _ (Builtin.SmallTypes.nextOf (.ref i2) >>= _) _ _ ⟨h₂, g, d, tk1, os⟩
    refine wpAny_bind (D2.done ⟨h₂, g, d, tk1, os⟩ _ _ (by rw [← hi2]; exact (D2.over (D2.over st2 hs₁ S.zf2) hs₂ S.sep1_2)) fun q e hq he => ?_)
    replace hq : Heap.ExtBut i2 h₂ q := hq
    exact hE q tk1 e (fun c o cz c1 c2 x => hq _ _ c2 (hs₂.extBut _ _ c1 (hs₁.extBut _ _ cz x))) he
  · have hi1 : i = n1 := by omega
    refine wpAny_bind (D1.done ⟨h₁, g, d, tk0, os⟩ _ _ (by rw [← hi1]; exact (D1.over st1 hs₁ S.zf1)) fun q e hq he => ?_)
    replace hq : Heap.ExtBut i1 h₁ q := hq
    exact hE q tk0 e (fun c o cz c1 c2 x => hq _ _ c1 (hs₁.extBut _ _ cz x)) he
theorem rp_pyNext_zipH_item {T : Addr} {f : Bool} {oT : Obj} {Q : Option Value → Shared → Prop} (S : ZipSep2 z TI TO i1 i2 fp1 fp2) (D1 : Draws prog w A.in1 i1 fp1 n1 P1 St1) (D2 : Draws prog w A.in1 i2 fp2 n2 P2 St2)
    (hz : IsZipHeld s.heap z TI TO T f) (hT : s.heap.get? T = some oT) (hTI : IsTupOf2 s.heap TI (.ref i1) (.ref i2)) (st1 : St1 i s.heap) (st2 : St2 i s.heap) (hlt1 : i < n1) (hlt2 : i < n2)
    (hQ : ∀ x1 x2 h' tk, P1 i x1 → P2 i x2 → IsZipHeld h' z TI TO T true → St1 (i + 1) h' → St2 (i + 1) h' → IsTupOf2 h' s.heap.objs.size x1 x2 → h'.objs.size = s.heap.objs.size + 1 →
      (∀ c o, c ≠ z → c ≠ i1 → c ≠ i2 → s.heap.get? c = some o → h'.get? c = some o) → Q (some (.ref s.heap.objs.size)) { s with heap := h', toks := tk }) :
    wpAny (model prog w) A (pyNext (.ref z)) Q E s := by
  have hTy : s.TypeIs (.ref z) "zip" := ⟨_, hz, rfl⟩
  unfold pyNext
  exact wpAny_bind (wpAny_attempt (wpAny_callSpecial?_slot (name := Str.ofString "__next__") hTy F.slot_zip_next
    (wpAny_call_entry F.slot_zip_next hTy F.entry_zip_next
      (rp_zipH_next_item S D1 D2 hz hT hTI st1 st2 hlt1 hlt2 fun x1 x2 h' tk y1 y2 b1 d1 d2 b5 b6 b7 => wpAny_pure (hQ x1 x2 h' tk y1 y2 b1 d1 d2 b5 b6 b7)) (F.args_zip_next_1 _))))
theorem rp_pyNext_zipH_end {T : Addr} {f : Bool} {oT : Obj} {Q : Option Value → Shared → Prop} (S : ZipSep2 z TI TO i1 i2 fp1 fp2) (D1 : Draws prog w A.in1 i1 fp1 n1 P1 St1) (D2 : Draws prog w A.in1 i2 fp2 n2 P2 St2)
    (hz : IsZipHeld s.heap z TI TO T f) (hT : s.heap.get? T = some oT) (hTI : IsTupOf2 s.heap TI (.ref i1) (.ref i2)) (st1 : St1 i s.heap) (st2 : St2 i s.heap) (hle1 : i ≤ n1) (hle2 : i ≤ n2) (hend : i = n1 ∨ i = n2)
    (hQ : ∀ h' tk, (∀ c o, c ≠ z → c ≠ i1 → c ≠ i2 → s.heap.get? c = some o → h'.get? c = some o) → Q none { s with heap := h', toks := tk }) : wpAny (model prog w) A (pyNext (.ref z)) Q E s := by
  have hTy : s.TypeIs (.ref z) "zip" := ⟨_, hz, rfl⟩
  unfold pyNext
  refine wpAny_bind (wpAny_attempt (wpAny_callSpecial?_slot (name := Str.ofString "__next__") hTy F.slot_zip_next
    (wpAny_call_entry F.slot_zip_next hTy F.entry_zip_next (rp_zipH_next_end S D1 D2 hz hT hTI st1 st2 hle1 hle2 hend fun h' tk e hk he => ?_) (F.args_zip_next_1 _))))
  obtain ⟨o, ho, hc⟩ := he
  refine wpAny_bind (wpAny_isInstance (T := "StopIteration") (b := true) ⟨o, ho, hc⟩ isSubtype_stop ?_)
  exact wpAny_pure (hQ _ _ hk)
end

/-- what a list is drawn from: state, items drawn so far -/
structure LW (prog : Program) (w : World) (A : Around) (I L : Addr) (n : Nat) (T : String) (wr : List Addr) (St : Nat → Heap → Array Value → Prop) : Prop where
  type : ∀ i (s : Shared) acc, St i s.heap acc → s.TypeIs (.ref I) T
  size : ∀ i h acc, St i h acc → acc.size = i
  off : L ∉ wr
  ne : L ≠ I
  frame : ∀ i h h' acc, St i h acc → (∀ b o, b ≠ L → h.get? b = some o → h'.get? b = some o) → St i h' acc
  item : ∀ i (s : Shared) acc (Q : Option Value → Shared → Prop) (E : Value → Shared → Prop), i < n → St i s.heap acc → (∃ o, s.heap.get? L = some o) →
    (∀ v h' tk, St (i + 1) h' (acc.push v) → (∀ b o, b ∉ wr → s.heap.get? b = some o → h'.get? b = some o) → Q (some v) { s with heap := h', toks := tk }) → wpAny (model prog w) A (pyNext (.ref I)) Q E s
  done : ∀ (s : Shared) acc (Q : Option Value → Shared → Prop) (E : Value → Shared → Prop), St n s.heap acc →
    (∀ h' tk, (∀ b o, b ∉ wr → s.heap.get? b = some o → h'.get? b = some o) → Q none { s with heap := h', toks := tk }) → wpAny (model prog w) A (pyNext (.ref I)) Q E s
  self : ∀ (A' : Around) i (s : Shared) acc (Q : Value → Shared → Prop) (E : Value → Shared → Prop), St i s.heap acc → Q (.ref I) s → wpAny (model prog w) A' (pyIter (.ref I)) Q E s

section
variable {prog : Program} {w : World} {A : Around} {R : Result → Shared → Prop} {I L : Addr} {wr : List Addr} {n : Nat} {T : String} {St : Nat → Heap → Array Value → Prop}
theorem rp_extend_loop (W : LW prog w A.in1 I L n T wr St) (hn : n ≤ sizeLine) (res : Value) :
    ∀ (k i : Nat) (s : Shared) (acc : Array Value) (c : Nat), n - i = k → i ≤ n → St i s.heap acc → s.heap.get? L = some { cls := .type "list", dict := none, data := .seq acc c, slots := #[] } →
    (∀ h' tk acc' c' h0, (∀ b o, b ≠ L → b ∉ wr → s.heap.get? b = some o → h'.get? b = some o) → h'.get? L = some { cls := .type "list", dict := none, data := .seq acc' c', slots := #[] } → St n h0 acc' → (∀ b o, b ∉ wr → h0.get? b = some o → h'.get? b = some o) → R (.ok (.ret res)) { s with heap := h', toks := tk }) →
    codeAny (model prog w) A (.builtin "list.extend.loop" ⟨[.ref L, .ref I, res], []⟩) R s := by
  intro k
  induction k with
  | zero =>
    intro i s acc c hk hi hst hS hR
    have hin : i = n := by omega
    subst hin
    refine codeAny_builtin F.entry_extend_loop ?_
    rw [Around.under_plainId F.plain_extend_loop _]
    show wpAny _ A.in1 (pyNext (.ref I) >>= _) _ _ s
    refine wpAny_bind (W.done s acc _ _ hst fun h' tk hm => ?_)
    exact wpAny_pure (hR h' tk acc c s.heap (fun b o _ hb e => hm b o hb e) (hm L _ W.off hS) hst hm)
  | succ k ih =>
    intro i s acc c hk hi hst hS hR
    have hlt : i < n := by omega
    refine codeAny_builtin F.entry_extend_loop ?_
    rw [Around.under_plainId F.plain_extend_loop _]
    show wpAny _ A.in1 (pyNext (.ref I) >>= _) _ _ s
    refine wpAny_bind (W.item i s acc _ _ hlt hst ⟨_, hS⟩ fun v h' tk hst' hm => ?_)
    have hS' := hm L _ W.off hS
    have hsz := W.size _ _ _ hst
    show wpAny _ A.in1 (updateSeq L (·.push v) >>= _) _ _ _
    refine wpAny_bind ?_
    refine wpAny_updateSeq hS' rfl (wpAny_pure ⟨plainId_quiet F.plain_extend_loop _, ih (i + 1) _ (acc.push v) _ (by omega) hlt (W.frame _ h' _ _ hst' fun b o hb e => ?_) (Heap.get?_update_self _ hS' rfl) (fun h'' tk'' acc' c' h0 hm'' hS'' f h0k => ?_)⟩)
      (by rw [hsz]; omega) (by show (acc.push v).size ≤ sizeLine + 1; rw [Array.size_push, hsz]; omega)
    · exact (Heap.get?_update_other _ _ (Ne.symm hb)).trans e
    · exact hR h'' tk'' acc' c' h0 (fun b o hb hw e => hm'' b o hb hw ((Heap.get?_update_other _ _ (Ne.symm hb)).trans (hm b o hw e))) hS'' f h0k

theorem rp_extend (W : LW prog w A.in1 I L n T wr St) (hl : typeLookup (.type T) "__len__" = pure none) (hn0 : typeLookup (.type T) "__length_hint__" = pure none)
    (h2 : (Value.type T == Value.type "list") = false) (h3 : (Value.type T == Value.type "tuple") = false) (hn : n ≤ sizeLine) (res : Value) (c₀ : Nat) {s : Shared} (hst : St 0 s.heap #[])
    (hS : s.heap.get? L = some { cls := .type "list", data := .seq #[] c₀ })
    (hR : ∀ h' tk acc' c' h0, (∀ b o, b ≠ L → b ∉ wr → s.heap.get? b = some o → h'.get? b = some o) → h'.get? L = some { cls := .type "list", dict := none, data := .seq acc' c', slots := #[] } → St n h0 acc' → (∀ b o, b ∉ wr → h0.get? b = some o → h'.get? b = some o) → R (.ok (.ret res)) { s with heap := h', toks := tk }) :
    wpAny (model prog w) A.in1 (Builtin.List.listExtendWith (.ref L) (.ref I) res)
      (fun fin s' => match fin with | .done f => R (.ok f) s' | .again c' => c'.quiet = true ∧ codeAny (model prog w) A c' R s') (fun e s' => R (.error e) s') s := by
  have hT : ∀ (s : Shared) acc, St 0 s.heap acc → s.TypeIs (.ref I) T := fun s acc h => W.type 0 s acc h
  unfold Builtin.List.listExtendWith
  refine wpAny_bind (wpAny_typeOf (hT _ _ hst) ?_)
  have h1 : Builtin.List.listSameRef (.ref L) (.ref I) = false := by simp [Builtin.List.listSameRef, W.ne]
  simp only [h1, h2, h3, Bool.or_false, Bool.false_eq_true, if_false]
  refine wpAny_bind (W.self _ 0 _ _ _ _ hst ?_)
  refine wpAny_bind (wpAny_holding ?_)
  unfold Builtin.List.listLengthHint
  refine wpAny_bind (wpAny_specialOf (hT _ _ hst) hl ?_)
  show wpAny _ A.in1 (specialOf (Value.ref I) (Str.ofString "__length_hint__") >>= _) _ _ _
  refine wpAny_bind (wpAny_specialOf (hT _ _ hst) hn0 ?_)
  refine wpAny_pure ?_
  show wpAny _ A.in1 (rule "list.extend.makes-room" >>= fun _ => Builtin.List.listTouch (.ref L) >>= fun _ =>
    again (.builtin "list.extend.loop" ⟨[.ref L, .ref I, res], []⟩)) _ _ _
  refine wpAny_bind (wpAny_rule ?_)
  refine wpAny_bind ?_
  show wpAny _ A.in1 (updateSeq L (·.push .none) >>= fun _ => updateSeq L (·.pop)) _ _ _
  refine wpAny_bind (wpAny_updateSeq hS rfl ?_)
  have hS₂ := Heap.get?_update_self (Obj.mapSeq (·.push Value.none)) hS rfl
  refine wpAny_updateSeq (hz := by seq_fits) hS₂ rfl ?_
  have hS₃ := Heap.get?_update_self (Obj.mapSeq (·.pop)) hS₂ rfl
  have oth : ∀ b o, b ≠ L → s.heap.get? b = some o → ((s.heap.update L (Obj.mapSeq (·.push Value.none))).update L (Obj.mapSeq (·.pop))).get? b = some o :=
    fun b o hb e => (Heap.get?_update_other _ _ (Ne.symm hb)).trans ((Heap.get?_update_other _ _ (Ne.symm hb)).trans e)
  refine wpAny_pure ⟨plainId_quiet F.plain_extend_loop _, rp_extend_loop W hn _ n 0 _ _ _ rfl (Nat.zero_le _) (W.frame 0 s.heap _ _ hst oth) hS₃ fun h' tk acc' c' h0 hk hS' f h0k => ?_⟩
  exact hR h' tk acc' c' h0 (fun b o hb hw e => hk b o hb hw (oth b o hb e)) hS' f h0k

theorem rp_list_init (W : LW prog w A.in1 I L n T wr St) (hl : typeLookup (.type T) "__len__" = pure none) (hn0 : typeLookup (.type T) "__length_hint__" = pure none)
    (h2 : (Value.type T == Value.type "list") = false) (h3 : (Value.type T == Value.type "tuple") = false) (hn : n ≤ sizeLine) {s : Shared} (hst : St 0 s.heap #[])
    (hS : s.heap.get? L = some { cls := .type "list", data := .seq #[] })
    (hR : ∀ h' tk acc' c' h0, (∀ b o, b ≠ L → b ∉ wr → s.heap.get? b = some o → h'.get? b = some o) → h'.get? L = some { cls := .type "list", dict := none, data := .seq acc' c', slots := #[] } → St n h0 acc' → (∀ b o, b ∉ wr → h0.get? b = some o → h'.get? b = some o) → R (.ok (.ret .none)) { s with heap := h', toks := tk }) :
    wpAny (model prog w) A.in1 (Builtin.«list.__init__» ⟨[.ref L, .ref I], []⟩)
      (fun fin s' => match fin with | .done f => R (.ok f) s' | .again c' => c'.quiet = true ∧ codeAny (model prog w) A c' R s') (fun e s' => R (.error e) s') s := by
  show wpAny _ A.in1 (do let old ← Builtin.List.listItems (.ref L); Builtin.List.listUpdate (.ref L) (fun _ => #[]); letGo old.toList.reverse; Builtin.List.listExtendWith (.ref L) (.ref I) .none) _ _ s
  refine wpAny_bind ?_
  unfold Builtin.List.listItems
  refine wpAny_bind (wpAny_seqItems hS rfl (wpAny_pure ?_))
  show wpAny _ A.in1 (updateSeq L (fun _ => #[]) >>= fun _ => letGo (#[] : Array Value).toList.reverse >>= fun _ => Builtin.List.listExtendWith (.ref L) (.ref I) .none) _ _ s
  refine wpAny_bind (wpAny_updateSeq hS rfl ?_)
  have hS₂ := Heap.get?_update_self (Obj.mapSeq (fun _ => (#[] : Array Value))) hS rfl
  have oth : ∀ b o, b ≠ L → s.heap.get? b = some o → (s.heap.update L (Obj.mapSeq (fun _ => (#[] : Array Value)))).get? b = some o :=
    fun b o hb e => (Heap.get?_update_other _ _ (Ne.symm hb)).trans e
  refine wpAny_bind (wpAny_letGo ?_)
  refine rp_extend W hl hn0 h2 h3 hn .none _ (W.frame 0 s.heap _ _ hst oth) hS₂ fun h' tk acc' c' h0 hk hS' f h0k => ?_
  exact hR h' tk acc' c' h0 (fun b o hb hw e => hk b o hb hw (oth b o hb e)) hS' f h0k

theorem rp_call_list {Q : Value → Shared → Prop} {E : Value → Shared → Prop} {s : Shared} (W : LW prog w A.in1.in1 I s.heap.objs.size n T wr St) (hl : typeLookup (.type T) "__len__" = pure none) (hn0 : typeLookup (.type T) "__length_hint__" = pure none)
    (h2 : (Value.type T == Value.type "list") = false) (h3 : (Value.type T == Value.type "tuple") = false) (hn : n ≤ sizeLine) (hst : St 0 s.heap #[])
    (hQ : ∀ h' tk acc' c' h0, (∀ b o, b ∉ wr → s.heap.get? b = some o → h'.get? b = some o) → h'.get? s.heap.objs.size = some { cls := .type "list", dict := none, data := .seq acc' c', slots := #[] } → St n h0 acc' → (∀ b o, b ∉ wr → h0.get? b = some o → h'.get? b = some o) → Q (.ref s.heap.objs.size) { s with heap := h', toks := tk }) :
    wpAny (model prog w) A (call (.type "list") [.ref I]) Q E s := by
  refine callType_codes (Q₁ := fun obj s₁ => obj = .ref s.heap.objs.size ∧ s₁ = { s with heap := s.heap.push { cls := .type "list", data := .seq #[] } }) F.called_list (F.typeCall_list_1 _) F.entry_list_init
    (code_list_new _ ⟨rfl, rfl⟩) fun obj s₁ h₁ => ?_
  obtain ⟨rfl, rfl⟩ := h₁
  have hS : (s.heap.push { cls := .type "list", data := .seq #[] }).get? s.heap.objs.size = some { cls := .type "list", data := .seq #[] } := Heap.get?_push_size _ rfl
  refine ⟨⟨_, hS, rfl⟩, F.args_list_init_2 _ _, rp_list_init W hl hn0 h2 h3 hn (W.frame 0 s.heap _ _ hst fun b o _ e => Heap.get?_push_of_some _ e) hS fun h' tk acc' c' h0 hm hS' f h0k => ?_⟩
  exact ⟨rfl, hQ h' tk acc' c' h0 (fun b o hw e => hm b o (Nat.ne_of_lt (Heap.lt_size e)) hw (Heap.get?_push_of_some _ e)) hS' f h0k⟩
end
theorem rp_zip_nolen : typeLookup (.type "zip") "__len__" = pure none := am_miss_of_fast (by decide +kernel)
theorem rp_zip_nohint : typeLookup (.type "zip") "__length_hint__" = pure none := am_miss_of_fast (by decide +kernel)
end PySem
end

section
set_option Elab.async false
set_option linter.all false
set_option maxRecDepth 100000
set_option autoImplicit false
set_option maxHeartbeats 1000000
/-! RpX3: zip over lists and tuples: walked, and made a list. -/
namespace RP
open PySem PySem.Spec PyProof.Rows L2

/-! ### a list or a tuple, by its kind -/
def SqK (k : Bool) (K : PySem.W.Frag) (H : Hp) (a : Addr) (xs : List V) : Prop := match k with
  | true => SqT K H a xs
  | false => SqL K H a xs
def ItrK (k : Bool) (h : Heap) (it a : Addr) (i : Nat) : Prop := match k with
  | true => h.IsTupleIter it a i
  | false => h.IsListIter it a i
def HasK (k : Bool) (h : Heap) (a : Addr) (its : Array Value) : Prop := match k with
  | true => h.IsTuple a its
  | false => h.IsList a its
def objK (k : Bool) (a : Addr) : Obj := match k with
  | true => { cls := .type "tuple_iterator", data := .fields #[.ref a, .int 0 0] }
  | false => { cls := .type "list_iterator", data := .fields #[.ref a, .int 0 0] }
theorem drawsK {prog : Program} {w : World} {A : Around} (hh : A.handled = none) (k : Bool) (it a : Addr) (hne : a ≠ it) (its : Array Value) :
    Draws prog w A it [it, a] its.size (fun i v => its[i]? = some v) (fun i h => ItrK k h it a i ∧ HasK k h a its) := by
  cases k
  · exact Draws.list hh it a hne its
  · exact Draws.tuple hh it a hne its
theorem beginsK (k : Bool) (a : Addr) (its : Array Value) : Begins (.ref a) (objK k a) fun h => HasK k h a its := by
  cases k
  · exact begins_list a its
  · exact begins_tuple a its
theorem itrK_new {k : Bool} {h : Heap} {it a : Addr} (e : h.get? it = some (objK k a)) : ItrK k h it a 0 := by
  cases k
  · exact ⟨_, e, rfl, rfl⟩
  · exact ⟨_, e, rfl, rfl⟩
theorem ItrK.at {k : Bool} {h h' : Heap} {it a : Addr} {i : Nat} (x : ItrK k h it a i) (q : ∀ o, h.get? it = some o → h'.get? it = some o) : ItrK k h' it a i := by
  cases k
  · exact Heap.IsListIter.at x q
  · exact Heap.IsTupleIter.at x q
theorem ItrK.obj {k : Bool} {h : Heap} {it a : Addr} {i : Nat} (x : ItrK k h it a i) : ∃ o, h.get? it = some o ∧ ∀ v, o.data ≠ .cell v := by
  cases k
  · obtain ⟨o, ho, hc, hd⟩ := x
    exact ⟨o, ho, fun v q => by rw [hd] at q; cases q⟩
  · obtain ⟨o, ho, hc, hd⟩ := x
    exact ⟨o, ho, fun v q => by rw [hd] at q; cases q⟩
section
variable {X : Cx} {pins : List (Addr × Obj)} {σ : St} {H : Hp} {s : Shared} {a : Addr} {xs ys : List V} {k : Bool}
theorem invK (I : Inv X pins σ H s) (h : SqK k X.K H a xs) : ∃ its : List Value, Vals xs its ∧ HasK k s.heap a its.toArray ∧ xs.length ≤ sizeLine := by
  cases k
  · obtain ⟨its, r, p, z⟩ := I.list h
    exact ⟨its, r, p.isList, z⟩
  · exact I.tuple h
theorem injK (I : Inv X pins σ H s) (h : SqK k X.K H a xs) (h' : SqK k X.K H a ys) : xs = ys := by
  cases k
  · exact I.list_inj h h'
  · exact I.tuple_inj h h'
end
theorem HasK.lt {k : Bool} {h : Heap} {a : Addr} {its : Array Value} (x : HasK k h a its) : a < h.objs.size := by
  cases k
  · obtain ⟨o, ho, _⟩ := x; exact Heap.lt_size ho
  · obtain ⟨o, ho, _⟩ := x; exact Heap.lt_size ho
theorem SqK.ext {k : Bool} {K : PySem.W.Frag} {G H : Hp} {a : Addr} {xs : List V} (e : Same G H) (h : SqK k K G a xs) : SqK k K H a xs := by
  cases k
  · exact e.seq h
  · exact Same.seqT e h

/-! ### zip walked -/
def ItzG (K : PySem.W.Frag) (ka kb : Bool) (a b : Addr) : It :=
  ⟨fun i H => ∃ (xs ys : List V) (x y : V), SqK ka K H a xs ∧ SqK kb K H b ys ∧ xs[i]? = some x ∧ ys[i]? = some y,
   fun i H v H' => ∃ T x y, v = .ref T ∧ H T = none ∧ H' = upd H T (.tup [x, y]) ∧ (∀ xs, SqK ka K H a xs → xs[i]? = some x) ∧ (∀ ys, SqK kb K H b ys → ys[i]? = some y),
   fun i H => ∃ xs ys : List V, SqK ka K H a xs ∧ SqK kb K H b ys ∧ i ≤ xs.length ∧ i ≤ ys.length ∧ (i = xs.length ∨ i = ys.length)⟩
theorem turn_zipG {P : Program} {w : World} {K : PySem.W.Frag} {elts : List Expr} {kk : Nat} {tpos : Pos} {ka kb : Bool} {a b z TI TO i1 i2 : Addr} (S : ZipSep2 z TI TO i1 i2 [i1, a] [i2, b]) (ha : a ≠ i1) (hb : b ≠ i2) :
    Turn P w K (.Tuple elts kk tpos) (ItzG K ka kb a b) [z, TI, TO, i1, i2] z (fun i h => IsZip h z TI TO .none ∧ IsTupOf2 h TI (.ref i1) (.ref i2) ∧ (∃ x y, IsTupOf2 h TO x y) ∧ ItrK ka h i1 a i ∧ ItrK kb h i2 b i) where
  mem := by simp
  obj := fun i h st c hc => by
    obtain ⟨hz, hTI, ⟨x, y, hTO⟩, h1, h2⟩ := st
    have e' : c = z ∨ c = TI ∨ c = TO ∨ c = i1 ∨ c = i2 := by simpa using hc
    rcases e' with e | e | e | e | e
    · rw [e]; exact ⟨_, hz, fun v q => nomatch q⟩
    · rw [e]; exact ⟨_, hTI, fun v q => nomatch q⟩
    · rw [e]; exact ⟨_, hTO, fun v q => nomatch q⟩
    · rw [e]; exact h1.obj
    · rw [e]; exact h2.obj
  keep := fun i h h' st k => by
    obtain ⟨hz, hTI, ⟨x, y, hTO⟩, h1, h2⟩ := st
    exact ⟨k z (by simp) _ hz, k TI (by simp) _ hTI, ⟨x, y, k TO (by simp) _ hTO⟩, h1.at fun o q => k i1 (by simp) o q, h2.at fun o q => k i2 (by simp) o q⟩
  item := by
    intro X hP hw hK hc i pins s σ H E I hf st hg
    subst hP hw hK
    obtain ⟨hz, hTI, ⟨x0, y0, hTO⟩, h1, h2⟩ := st
    obtain ⟨xs, ys, x, y, hqx, hqy, hx, hy⟩ := hg
    obtain ⟨its, rv, p, _⟩ := invK I hqx
    obtain ⟨its2, rv2, p2, _⟩ := invK I hqy
    obtain ⟨u, hu, ru⟩ := rv.get hx
    obtain ⟨u2, hu2, ru2⟩ := rv2.get hy
    have hzl : z < s.heap.objs.size := Heap.lt_size hz
    have D1 : Draws X.prog X.w X.A.in1 i1 [i1, a] its.toArray.size _ _ := drawsK (A := X.A.in1) (I.ok.hd hc) ka i1 a ha its.toArray
    have D2 : Draws X.prog X.w X.A.in1 i2 [i2, b] its2.toArray.size _ _ := drawsK (A := X.A.in1) (I.ok.hd hc) kb i2 b hb its2.toArray
    have z1 : i < its.toArray.size := by rw [List.size_toArray]; exact (List.getElem?_eq_some_iff.mp hu).1
    have z2 : i < its2.toArray.size := by rw [List.size_toArray]; exact (List.getElem?_eq_some_iff.mp hu2).1
    refine wpAny_pyNext_zipD2_item S D1 D2 hz hTI hTO ⟨h1, p⟩ ⟨h2, p2⟩ z1 z2 fun v1 v2 h' tk e1 e2 hz' hTO' st1 st2 hT hsz hk => ?_
    have ee1 : v1 = u := by
      have g1 : its.toArray[i]? = some v1 := e1
      have g2 : its.toArray[i]? = some u := by simpa using hu
      rw [g2] at g1; exact (Option.some.inj g1).symm
    have ee2 : v2 = u2 := by
      have g1 : its2.toArray[i]? = some v2 := e2
      have g2 : its2.toArray[i]? = some u2 := by simpa using hu2
      rw [g2] at g1; exact (Option.some.inj g1).symm
    subst ee1 ee2
    refine ⟨_, rfl, wpAny_letOwnedTupleGo_zip (s := { s with heap := h', toks := tk }) hz' fun h'' z'' sb => ?_⟩
    have hT2 : h''.get? s.heap.objs.size = some { cls := .type "tuple", data := .seq #[v1, v2] } := (sb.2 _ (Nat.ne_of_gt hzl)).trans hT
    have new : ObjOk X.prog X.w (upd H s.heap.objs.size (.tup [x, y])) h'' s.heap.objs.size (.tup [x, y]) :=
      ⟨by show 2 ≤ sizeLine; decide, [v1, v2], .cons ru (.cons ru2 .nil), ⟨_, hT2, rfl, _, rfl⟩⟩
    have I1 : Inv X pins σ (upd H s.heap.objs.size (.tup [x, y])) { s with heap := h'', toks := tk } :=
      I.turnedNew (ch := [z, TI, TO, i1, i2]) (fun c o hb q => (sb.2 c (fun q' => hb (by simp [q']))).trans (hk c o (fun q' => hb (by simp [q'])) (fun q' => hb (by simp [q'])) (fun q' => hb (by simp [q'])) (fun q' => hb (by simp [q'])) q)) hf (Nat.le_refl _) new
    refine ⟨.ref s.heap.objs.size, _, I1, rfl, ⟨_, x, y, rfl, I.hok.fresh (Nat.le_refl _), rfl, fun l hl => by rw [injK I hl hqx]; exact hx, fun l hl => by rw [injK I hl hqy]; exact hy⟩, ⟨z'', ?_, ⟨v1, v2, ?_⟩, ?_, ?_⟩, fun c hcm => ?_⟩
    · exact (sb.2 _ S.TIz).trans (hk _ _ S.TIz S.TITO S.TIi1 S.TIi2 hTI)
    · exact (sb.2 _ S.TOz).trans hTO'
    · exact st1.1.at fun o q => (sb.2 _ S.zi1.symm).trans q
    · exact st2.1.at fun o q => (sb.2 _ S.zi2.symm).trans q
    · have hlt : c < s.heap.objs.size := by
        have e' : c = z ∨ c = TI ∨ c = TO ∨ c = i1 ∨ c = i2 := by simpa using hcm
        rcases e' with q | q | q | q | q
        · rw [q]; exact hzl
        · rw [q]; exact Heap.lt_size hTI
        · rw [q]; exact Heap.lt_size hTO
        · rw [q]; obtain ⟨_, e1, _⟩ := h1.obj; exact Heap.lt_size e1
        · rw [q]; obtain ⟨_, e2, _⟩ := h2.obj; exact Heap.lt_size e2
      rw [upd_ne (Nat.ne_of_lt hlt)]
      exact (hf c hcm).1
  done := by
    intro X hP hw hK hc i pins s σ H E I hf st hg
    subst hP hw hK
    obtain ⟨hz, hTI, ⟨x0, y0, hTO⟩, h1, h2⟩ := st
    obtain ⟨xs, ys, hqx, hqy, g1, g2, hend⟩ := hg
    obtain ⟨its, rv, p, _⟩ := invK I hqx
    obtain ⟨its2, rv2, p2, _⟩ := invK I hqy
    have D1 : Draws X.prog X.w X.A.in1 i1 [i1, a] its.toArray.size _ _ := drawsK (A := X.A.in1) (I.ok.hd hc) ka i1 a ha its.toArray
    have D2 : Draws X.prog X.w X.A.in1 i2 [i2, b] its2.toArray.size _ _ := drawsK (A := X.A.in1) (I.ok.hd hc) kb i2 b hb its2.toArray
    have l1 : its.toArray.size = xs.length := by rw [List.size_toArray, rv.length]
    have l2 : its2.toArray.size = ys.length := by rw [List.size_toArray, rv2.length]
    exact wpAny_pyNext_zipD2_end S D1 D2 hz hTI hTO ⟨h1, p⟩ ⟨h2, p2⟩ (by rw [l1]; exact g1) (by rw [l2]; exact g2) (by rw [l1, l2]; exact hend) fun h' tk hk => ⟨rfl, I.turnedL (t' := tk) (ch := [z, TI, TO, i1, i2]) (fun c o hb q =>
      hk c o (fun q' => hb (by simp [q'])) (fun q' => hb (by simp [q'])) (fun q' => hb (by simp [q'])) (fun q' => hb (by simp [q'])) q) hf⟩
  self := fun A i s Q E st h => wpAny_pyIter_zip st.1 h
/-- zip of what stands at a and b is made -/
theorem zip_made {prog : Program} {w : World} {A : Around} {E : Value → Shared → Prop} {s : Shared} {ka kb : Bool} {a b : Addr} {xs ys : Array Value} {Q : Value → Shared → Prop} (h1 : HasK ka s.heap a xs) (h2 : HasK kb s.heap b ys)
    (h : ∀ h', IsZip h' (s.heap.objs.size + 4) (s.heap.objs.size + 2) (s.heap.objs.size + 3) .none → IsTupOf2 h' (s.heap.objs.size + 2) (.ref s.heap.objs.size) (.ref (s.heap.objs.size + 1)) →
      IsTupOf2 h' (s.heap.objs.size + 3) .none .none → ItrK ka h' s.heap.objs.size a 0 → ItrK kb h' (s.heap.objs.size + 1) b 0 → h'.objs.size = s.heap.objs.size + 5 →
      (∀ c o, s.heap.get? c = some o → h'.get? c = some o) → Q (.ref (s.heap.objs.size + 4)) { s with heap := h' }) :
    wpAny (model prog w) A (call (.type "zip") [.ref a, .ref b]) Q E s :=
  zip_begins2 (beginsK ka a xs) (beginsK kb b ys) h1 h2 fun h' z1 z2 z3 z4 z5 z6 k => h h' z1 z2 z3 (itrK_new z4) (itrK_new z5) z6 k
theorem pi_zipG {X : Cx} {e e2 : Expr} {ta : TA} {p pos tpos : Pos} {elts : List Expr} {kk : Nat} (hg : Gl X "zip") (hm : X.mg "zip" = none) (ha : PA X [e, e2] ta)
    (hs : starEach [e, e2] X.env = (false, eval e X.env) :: starEach [e2] X.env) (hpl : (backTo pos (starEach [e2] X.env)).any (·.1) = false) :
    PI X (.Tuple elts kk tpos) (.Call (.Name "zip" p) [e, e2] [] pos) (fun σ H R => ta σ H fun vs H1 => ∃ ka kb a b xs ys, vs = [.ref a, .ref b] ∧ SqK ka X.K H1 a xs ∧ SqK kb X.K H1 b ys ∧ (xs.length ≤ sizeLine → ys.length ≤ sizeLine → R (ItzG X.K ka kb a b) H1)) := by
  refine ⟨fun pins s σ H R I h => ?_⟩
  refine Call_ (ld_blt I hg hm PyProof.Rows.boot_zip (PyProof.Rows.callWith_type1 (thn (ha.run pos pins s σ H _ I h) fun us s1 ⟨vs, H1, I1, r1, q1⟩ => ?_) hs hpl))
  obtain ⟨ka, kb, a, b, xs, ys, ex, hqx, hqy, q⟩ := q1
  subst ex
  cases r1 with
  | cons r rr =>
    cases rr with
    | cons r' rr =>
      cases rr
      cases r
      cases r'
      have fresh5 : ∀ c, c ∈ [s1.heap.objs.size + 4, s1.heap.objs.size + 2, s1.heap.objs.size + 3, s1.heap.objs.size, s1.heap.objs.size + 1] → FpOk X pins H1 c := fun c hcm => by
        have e' : c = s1.heap.objs.size + 4 ∨ c = s1.heap.objs.size + 2 ∨ c = s1.heap.objs.size + 3 ∨ c = s1.heap.objs.size ∨ c = s1.heap.objs.size + 1 := by simpa using hcm
        have hle : s1.heap.objs.size ≤ c := by
          rcases e' with z | z | z | z | z
          · rw [z]; exact Nat.le_add_right _ _
          · rw [z]; exact Nat.le_add_right _ _
          · rw [z]; exact Nat.le_add_right _ _
          · rw [z]; exact Nat.le_refl _
          · rw [z]; exact Nat.le_add_right _ _
        exact I1.fpOk hle (I1.hok.fresh hle)
      obtain ⟨its, rv, p1, zx⟩ := invK I1 hqx
      obtain ⟨its2, rv2, p2, zy⟩ := invK I1 hqy
      have la := p1.lt
      have lb := p2.lt
      refine zip_made p1 p2 fun h' hz hTI hTO h1 h2 hsz hk => wpAny_pyIter_zip hz ?_
      have I2 : Inv X pins σ H1 { s1 with heap := h' } := I1.kept (t' := s1.toks) hk
      exact ⟨s1.heap.objs.size + 4, [s1.heap.objs.size + 4, s1.heap.objs.size + 2, s1.heap.objs.size + 3, s1.heap.objs.size, s1.heap.objs.size + 1], _, _, H1, rfl, I2,
        turn_zipG (zip_sep2 (N := s1.heap.objs.size) (fp1 := [a]) (fp2 := [b]) (fun c hc => by rw [List.mem_singleton.mp hc]; exact la) (fun c hc => by rw [List.mem_singleton.mp hc]; exact lb)) (Nat.ne_of_lt la) (Nat.ne_of_lt (Nat.lt_succ_of_lt lb)),
        ⟨hz, hTI, ⟨_, _, hTO⟩, h1, h2⟩, fresh5, q zx zy⟩
section
variable {S : SCtx} {T : Tab} {tg e a b c : Expr} {es elts : List Expr} {pos p tpos p2 pos2 : Pos} {f fa fb fc : EF} {fs : AF} {t u : TF} {vs : List Nat} {gf : GF} {gs : List GF} {kk : Nat}
theorem zipL_get {xs ys : List D} {i : Nat} {d : D} (h : (zipL xs ys)[i]? = some d) : ∃ x y, xs[i]? = some x ∧ ys[i]? = some y ∧ d = .tup [x, y] := by
  unfold zipL at h
  rw [List.getElem?_map] at h
  cases e : (xs.zip ys)[i]? with
  | none => rw [e] at h; cases h
  | some p =>
    rw [e] at h
    cases h
    obtain ⟨h1, h2⟩ := List.getElem?_zip_eq_some.mp e
    exact ⟨p.1, p.2, h1, h2, rfl⟩
theorem zipL_len (xs ys : List D) : (zipL xs ys).length = min xs.length ys.length := by
  unfold zipL
  rw [List.length_map, List.length_zip]
theorem walk_zipG {K : PySem.W.Frag} {ka kb : Bool} {a b : Addr} {vs ws : List V} {ds es : List D} {L : List Addr → Hp → Hp → Prop} (h : ∀ m G H cs, L m G H → Wf K m G H cs → SqK ka K H a vs ∧ SqK kb K H b ws ∧ Rels K m G ds vs ∧ Rels K m G es ws) : Walk K (ItzG K ka kb a b) (zipL ds es) L := fun m G H cs i l W => by
  obtain ⟨h1, h2, r1, r2⟩ := h m G H cs l W
  have e1 := r1.length
  have e2 := r2.length
  rw [zipL_len]
  refine ⟨fun hi => ?_, fun hi => ⟨vs, ws, h1, h2, by omega, by omega, by omega⟩, fun x H' y d hd => ?_⟩
  · have l1 : i < vs.length := by omega
    have l2 : i < ws.length := by omega
    exact ⟨vs, ws, vs[i], ws[i], h1, h2, List.getElem?_eq_getElem l1, List.getElem?_eq_getElem l2⟩
  · obtain ⟨T, v1, v2, rfl, hT, rfl, y1, y2⟩ := y
    obtain ⟨d1, d2, q1, q2, rfl⟩ := zipL_get hd
    obtain ⟨w1, z1, k1⟩ := r1.get' q1
    obtain ⟨w2, z2, k2⟩ := r2.get' q2
    have := y1 vs h1
    rw [z1] at this
    cases this
    have := y2 ws h2
    rw [z2] at this
    cases this
    exact pair_walk W hT k1 k2
theorem asLT_read {K : PySem.W.Frag} {m : List Addr} {G H : Hp} {cs : Cells} (W : Wf K m G H cs) {d : D} {v : V} {P : List D → Cells → List Addr → Hp → Hp → Prop} (r : Rel K m G d v) (F : Post K m G H (asLT d cs) P) :
    ∃ k a vs ds, v = .ref a ∧ SqK k K G a vs ∧ Rels K m G ds vs ∧ asLT d = pure ds ∧ Post K m G H ((pure ds : M (List D)) cs) P := by
  cases d with
  | lst ds =>
    cases r with
    | lst h rr => exact ⟨false, _, _, ds, rfl, SqL.of h, rr, rfl, F⟩
  | tup ds =>
    cases r with
    | tup h rr => exact ⟨true, _, _, ds, rfl, h, rr, rfl, F⟩
  | _ => exact F.elim
theorem si_zip (ha : SE S T a fa) (hb : SE S T b fb) (hg : glB S "zip" = true := by decide +kernel) (hn : noStar a = true := by rfl) (hn2 : noStar b = true := by rfl) : SI S T (.Tuple elts kk tpos) (.Call (.Name "zip" p) [a, b] [] pos) (lCall zipD (aCons fa (aCons fb aNil))) := fun X g => by
  obtain ⟨q1, q2, q3⟩ := glG g hg
  refine (pi_zipG q1 (g.blt "zip" (by decide +kernel)) ((sa_cons ha (sa_cons hb sa_nil hn2) hn).run X g) (by rw [star_cons hn]) (star_any (by rw [List.all_cons, hn2]; rfl) _ _)).imp fun σ H R ⟨ρ, cs, m, G, W, E, F⟩ => ?_
  refine ⟨ρ, cs, m, G, W, E, F.bind.imp fun xs cs1 m1 G1 H1 x1 W1 F1 vs rvs => ?_⟩
  unfold zipD at F1
  split at F1
  · cases rvs with
    | cons r rr =>
      cases rr with
      | cons r' rr =>
        cases rr
        obtain ⟨ka, a', vs1, ds1, rfl, s1, k1, eq1, F2⟩ := asLT_read W1 r F1.bind
        have F2 := Post.pure W1 F2
        obtain ⟨kb, b', vs2, ds2, rfl, s2, k2, eq2, F3⟩ := asLT_read W1 r' F2.bind
        have F3 := Post.pure W1 F3
        refine ⟨ka, kb, a', b', vs1, vs2, rfl, s1.ext W1.sub, s2.ext W1.sub, fun z1 z2 => Post.pure W1 F3 (by rw [zipL_len, k1.length, LIM_eq]; exact Nat.le_trans (Nat.min_le_left _ _) z1) _ (walk_zipG fun m G H cs l W => ⟨(s1.ext l.2).ext W.sub, (s2.ext l.2).ext W.sub, Rels.mono l.1 l.2 k1, Rels.mono l.1 l.2 k2⟩)⟩
  · exact F1.elim
end
end RP
end

section
set_option Elab.async false
set_option linter.all false
set_option maxRecDepth 100000
set_option autoImplicit false
set_option maxHeartbeats 1000000
/-! RpX4: list(zip(a, b)). -/
namespace RP
open PySem PySem.Spec PyProof.Rows L2

theorem _root_.L2.Inv.more {X : Cx} {pins : List (Addr × Obj)} {σ : St} {H H' : Hp} {s : Shared} {h' : Heap} {t' : Nat} (I : Inv X pins σ H s) (k : ∀ b u, s.heap.get? b = some u → h'.get? b = some u) (e : Same H H')
    (fr : ∀ b o, s.heap.get? b = some o → H b = none → H' b = none) (new : ∀ b u, H' b = some u → H b = some u ∨ ObjOk X.prog X.w H' h' b u) : Inv X pins σ H' { s with heap := h', toks := t' } :=
  I.un ⟨fun b o q _ _ _ => k b o q, fun b o q _ _ _ => ⟨o.slots, k b o q⟩, fun b o q n _ => fr b o q n, fun b o q _ => ⟨o, k b o q⟩, fun b xs q => e b _ q, fun b o u q => e b _ q, fun b ps q => ⟨#[], by rw [e b _ q]; simp⟩⟩
    fun b u q => by
      rcases new b u q with q | q
      · exact (I.hok b u q).stay (fun c v _ z => k c v z) (fun d z => e d _ z) fun d xs z => e d _ z
      · exact q

/-- pairs laid -/
def layP (H : Hp) : List (Addr × V × V) → Hp
  | [] => H
  | p :: r => upd (layP H r) p.1 (.tup [p.2.1, p.2.2])
theorem layP_off {H : Hp} {a : Addr} : ∀ {ps : List (Addr × V × V)}, (∀ p ∈ ps, p.1 ≠ a) → layP H ps a = H a
  | [], _ => rfl
  | p :: r, h => by
    show upd (layP H r) p.1 _ a = _
    rw [upd_ne (fun e => h p List.mem_cons_self e.symm)]
    exact layP_off fun q hq => h q (List.mem_cons_of_mem _ hq)
theorem layP_some {H : Hp} {a : Addr} {u : HO} : ∀ {ps : List (Addr × V × V)}, layP H ps a = some u → H a = some u ∨ ∃ p ∈ ps, p.1 = a ∧ u = .tup [p.2.1, p.2.2]
  | [], h => .inl h
  | p :: r, h => by
    by_cases e : a = p.1
    · subst e
      have h' : upd (layP H r) p.1 (.tup [p.2.1, p.2.2]) p.1 = some u := h
      rw [upd_same] at h'
      exact .inr ⟨p, List.mem_cons_self, rfl, (Option.some.inj h').symm⟩
    · have h' : upd (layP H r) p.1 (.tup [p.2.1, p.2.2]) a = some u := h
      rw [upd_ne e] at h'
      rcases layP_some h' with q | ⟨q, hq, e1, e2⟩
      · exact .inl q
      · exact .inr ⟨q, List.mem_cons_of_mem _ hq, e1, e2⟩
theorem lay_many {K : PySem.W.Frag} {m : List Addr} {cs : Cells} {G H : Hp} (W : Wf K m G H cs) : ∀ {ps : List (Addr × V × V)} {ds es : List D}, (ps.map (·.1)).Nodup → (∀ p ∈ ps, H p.1 = none) → Rels K m G ds (ps.map fun p => p.2.1) → Rels K m G es (ps.map fun p => p.2.2) →
    ∃ G', Ext m G H m G' (layP H ps) ∧ Wf K m G' (layP H ps) cs ∧ Rels K m G' (zipL ds es) (ps.map fun p => V.ref p.1)
  | [], [], [], _, _, _, _ => ⟨G, Ext.refl m G H, W, .nil⟩
  | p :: r, d :: ds, e :: es, nd, fr, .cons k1 r1, .cons k2 r2 => by
    rw [List.map_cons, List.nodup_cons] at nd
    obtain ⟨G1, x1, W1, rr⟩ := lay_many W nd.2 (fun q hq => fr q (List.mem_cons_of_mem _ hq)) r1 r2
    have hn : layP H r p.1 = none := by
      rw [layP_off fun q hq e => nd.1 (by rw [← e]; exact List.mem_map_of_mem hq)]
      exact fr p List.mem_cons_self
    obtain ⟨G2, x2, W2, r3⟩ := pair_walk W1 hn (Rel.mono x1.pre x1.frz k1) (Rel.mono x1.pre x1.frz k2)
    exact ⟨G2, x1.trans x2, W2, .cons r3 (Rels.mono x2.pre x2.frz rr)⟩

/-- a zip as what a list is drawn from -/
def ZSt (ka kb : Bool) (a b z TI TO i1 i2 L N : Addr) (xs ys : Array Value) : Nat → Heap → Array Value → Prop := fun i h acc =>
  IsTupOf2 h TI (.ref i1) (.ref i2) ∧ (ItrK ka h i1 a i ∧ HasK ka h a xs) ∧ (ItrK kb h i2 b i ∧ HasK kb h b ys) ∧
  ((IsZip h z TI TO .none ∧ ∃ x y, IsTupOf2 h TO x y) ∨ ∃ T f oT, IsZipHeld h z TI TO T f ∧ h.get? T = some oT ∧ T ≠ z ∧ T ≠ i1 ∧ T ≠ i2 ∧ T ≠ L) ∧ acc.size = i ∧ acc.toList.Nodup ∧
  ∀ (j : Nat) (v : Value), acc[j]? = some v → ∃ T x y, v = .ref T ∧ xs[j]? = some x ∧ ys[j]? = some y ∧ IsTupOf2 h T x y ∧ N ≤ T ∧ T ≠ z ∧ T ≠ TO ∧ T ≠ i1 ∧ T ≠ i2 ∧ T ≠ L
theorem lwZip {prog : Program} {w : World} {A : Around} (hh : A.handled = none) {ka kb : Bool} {a b z TI TO i1 i2 L N : Addr} {xs ys : Array Value} (S : ZipSep2 z TI TO i1 i2 [i1, a] [i2, b]) (ha : a ≠ i1) (hb : b ≠ i2)
    (hL : L ≠ z ∧ L ≠ TI ∧ L ≠ TO ∧ L ≠ i1 ∧ L ≠ i2 ∧ L ≠ a ∧ L ≠ b) (hN : N ≤ L) (hTOL : TO < L) :
    LW prog w A z L (min xs.size ys.size) "zip" [z, TO, i1, i2] (ZSt ka kb a b z TI TO i1 i2 L N xs ys) where
  type := fun i s acc st => by
    obtain ⟨_, _, _, hz, _⟩ := st
    rcases hz with ⟨hz, _⟩ | ⟨T, f, oT, hz, _⟩
    · exact ⟨_, hz, rfl⟩
    · exact ⟨_, hz, rfl⟩
  size := fun i h acc st => st.2.2.2.2.1
  off := fun h => by
    have e' : L = z ∨ L = TO ∨ L = i1 ∨ L = i2 := by simpa using h
    rcases e' with e | e | e | e
    · exact hL.1 e
    · exact hL.2.2.1 e
    · exact hL.2.2.2.1 e
    · exact hL.2.2.2.2.1 e
  ne := hL.1
  frame := fun i h h' acc st k => by
    obtain ⟨hTI, ⟨h1, p1⟩, ⟨h2, p2⟩, hz, hs, nd, hacc⟩ := st
    have kk : ∀ {k : Bool} {c : Addr} {its : Array Value}, L ≠ c → HasK k h c its → HasK k h' c its := fun {k c its} hc x => by
      cases k
      · exact Heap.IsList.at x fun o e => by exact (by assumption : ∀ b o, b ≠ L → h.get? b = some o → h'.get? b = some o) _ o (Ne.symm hc) e
      · exact Heap.IsTuple.at x fun o e => by exact (by assumption : ∀ b o, b ≠ L → h.get? b = some o → h'.get? b = some o) _ o (Ne.symm hc) e
    refine ⟨k _ _ (Ne.symm hL.2.1) hTI, ⟨h1.at fun o e => k _ o (Ne.symm hL.2.2.2.1) e, kk hL.2.2.2.2.2.1 p1⟩, ⟨h2.at fun o e => k _ o (Ne.symm hL.2.2.2.2.1) e, kk hL.2.2.2.2.2.2 p2⟩, ?_, hs, nd, fun j v e => ?_⟩
    · rcases hz with ⟨hz, x, y, hTO⟩ | ⟨T, f, oT, hz, hT, t1, t2, t3, t4⟩
      · exact .inl ⟨k _ _ (Ne.symm hL.1) hz, x, y, k _ _ (Ne.symm hL.2.2.1) hTO⟩
      · exact .inr ⟨T, f, oT, k _ _ (Ne.symm hL.1) hz, k _ _ t4 hT, t1, t2, t3, t4⟩
    · obtain ⟨T, x, y, e1, e2, e3, e4, e5, t1, t2, t3, t4, t5⟩ := hacc j v e
      exact ⟨T, x, y, e1, e2, e3, k _ _ t5 e4, e5, t1, t2, t3, t4, t5⟩
  item := fun i s acc Q E hi st hLs hQ => by
    obtain ⟨hTI, ⟨h1, p1⟩, ⟨h2, p2⟩, hz, hs, nd, hacc⟩ := st
    obtain ⟨oL, hoL⟩ := hLs
    have hx : i < xs.size := Nat.lt_of_lt_of_le hi (Nat.min_le_left ..)
    have hy : i < ys.size := Nat.lt_of_lt_of_le hi (Nat.min_le_right ..)
    have D1 : Draws prog w A.in1 i1 [i1, a] xs.size _ _ := drawsK (A := A.in1) hh ka i1 a ha xs
    have D2 : Draws prog w A.in1 i2 [i2, b] ys.size _ _ := drawsK (A := A.in1) hh kb i2 b hb ys
    have lt : ∀ {c o}, s.heap.get? c = some o → s.heap.objs.size ≠ c := fun e => Nat.ne_of_gt (Heap.lt_size e)
    have n1 : s.heap.objs.size ≠ i1 := let ⟨_, e, _⟩ := h1.obj; lt e
    have n2 : s.heap.objs.size ≠ i2 := let ⟨_, e, _⟩ := h2.obj; lt e
    have nL : s.heap.objs.size ≠ L := lt hoL
    have nN : N ≤ s.heap.objs.size := Nat.le_trans hN (Nat.le_of_lt (Heap.lt_size hoL))
    have fresh : Value.ref s.heap.objs.size ∉ acc.toList := fun hm => by
      obtain ⟨j, hj⟩ := List.mem_iff_getElem?.mp hm
      obtain ⟨T, x, y, e1, _, _, e4, _⟩ := hacc j _ (by rw [← hj, Array.getElem?_toList])
      cases e1
      exact lt e4 rfl
    have nd' : (acc.push (Value.ref s.heap.objs.size)).toList.Nodup := by
      rw [Array.toList_push, List.nodup_append]
      exact ⟨nd, by simp, fun x hx y hy => by rw [List.mem_singleton.mp hy]; exact fun e => fresh (by rw [← e]; exact hx)⟩
    have sz' : (acc.push (Value.ref s.heap.objs.size)).size = i + 1 := by rw [Array.size_push, hs]
    rcases hz with ⟨hz, x0, y0, hTO⟩ | ⟨T, f, oT, hz, hT, t1, t2, t3, t4⟩
    · refine wpAny_pyNext_zipD2_item S D1 D2 hz hTI hTO ⟨h1, p1⟩ ⟨h2, p2⟩ hx hy fun v1 v2 h' tk e1 e2 hz' hTO' st1 st2 hT hsz hk => ?_
      have nz : s.heap.objs.size ≠ z := lt hz
      have nTO : s.heap.objs.size ≠ TO := lt hTO
      refine hQ _ h' tk ⟨hk _ _ S.TIz S.TITO S.TIi1 S.TIi2 hTI, st1, st2, .inr ⟨s.heap.objs.size, false, _, hz', hT, nz, n1, n2, nL⟩, sz', nd', fun j v e => ?_⟩ fun c o hc e => hk c o (fun x => hc (by simp [x])) (fun x => hc (by simp [x])) (fun x => hc (by simp [x])) (fun x => hc (by simp [x])) e
      rw [Array.getElem?_push] at e
      split at e
      · rename_i ej
        cases e
        rw [ej, hs]
        exact ⟨_, v1, v2, rfl, e1, e2, hT, nN, nz, nTO, n1, n2, nL⟩
      · obtain ⟨T, x, y, e1, e2, e3, e4, e5, t1, t2, t3, t4, t5⟩ := hacc j v e
        exact ⟨T, x, y, e1, e2, e3, hk _ _ t1 t2 t3 t4 e4, e5, t1, t2, t3, t4, t5⟩
    · refine rp_pyNext_zipH_item S D1 D2 hz hT hTI ⟨h1, p1⟩ ⟨h2, p2⟩ hx hy fun v1 v2 h' tk e1 e2 hz' st1 st2 hT' hsz hk => ?_
      have nz : s.heap.objs.size ≠ z := lt hz
      have nTO : s.heap.objs.size ≠ TO := Nat.ne_of_gt (Nat.lt_trans hTOL (Heap.lt_size hoL))
      refine hQ _ h' tk ⟨hk _ _ S.TIz S.TIi1 S.TIi2 hTI, st1, st2, .inr ⟨T, true, oT, hz', hk _ _ t1 t2 t3 hT, t1, t2, t3, t4⟩, sz', nd', fun j v e => ?_⟩ fun c o hc e => hk c o (fun x => hc (by simp [x])) (fun x => hc (by simp [x])) (fun x => hc (by simp [x])) e
      rw [Array.getElem?_push] at e
      split at e
      · rename_i ej
        cases e
        rw [ej, hs]
        exact ⟨_, v1, v2, rfl, e1, e2, hT', nN, nz, nTO, n1, n2, nL⟩
      · obtain ⟨T, x, y, e1, e2, e3, e4, e5, t1, t2, t3, t4, t5⟩ := hacc j v e
        exact ⟨T, x, y, e1, e2, e3, hk _ _ t1 t3 t4 e4, e5, t1, t2, t3, t4, t5⟩
  done := fun s acc Q E st hQ => by
    obtain ⟨hTI, ⟨h1, p1⟩, ⟨h2, p2⟩, hz, hs, nd, hacc⟩ := st
    have D1 : Draws prog w A.in1 i1 [i1, a] xs.size _ _ := drawsK (A := A.in1) hh ka i1 a ha xs
    have D2 : Draws prog w A.in1 i2 [i2, b] ys.size _ _ := drawsK (A := A.in1) hh kb i2 b hb ys
    have hend : min xs.size ys.size = xs.size ∨ min xs.size ys.size = ys.size := by omega
    rcases hz with ⟨hz, x0, y0, hTO⟩ | ⟨T, f, oT, hz, hT, t1, t2, t3, t4⟩
    · exact wpAny_pyNext_zipD2_end S D1 D2 hz hTI hTO ⟨h1, p1⟩ ⟨h2, p2⟩ (Nat.min_le_left ..) (Nat.min_le_right ..) hend fun h' tk hk => hQ h' tk fun c o hc e => hk c o (fun x => hc (by simp [x])) (fun x => hc (by simp [x])) (fun x => hc (by simp [x])) (fun x => hc (by simp [x])) e
    · exact rp_pyNext_zipH_end S D1 D2 hz hT hTI ⟨h1, p1⟩ ⟨h2, p2⟩ (Nat.min_le_left ..) (Nat.min_le_right ..) hend fun h' tk hk => hQ h' tk fun c o hc e => hk c o (fun x => hc (by simp [x])) (fun x => hc (by simp [x])) (fun x => hc (by simp [x])) e
  self := fun A' i s acc Q E st h => by
    obtain ⟨_, _, _, hz, _⟩ := st
    rcases hz with ⟨hz, _⟩ | ⟨T, f, oT, hz, _⟩
    · exact wpAny_pyIter_zip hz h
    · have hT : s.TypeIs (.ref z) "zip" := ⟨_, hz, rfl⟩
      refine wpAny_pyIter_slot hT F.slot_zip_iter (wpAny_call_entry F.slot_zip_iter hT F.entry_zip_iter ?_ (F.args_zip_iter_1 _))
      show wpAny _ _ (ret (.ref z)) _ _ s
      exact wpAny_pure ⟨_, rfl, "zip", _, hT, F.slot_zip_next.lookup, h⟩
/-- the heap behind list(zip(..)) -/
def ZipTo (H : Hp) (xs ys : List V) (L : Addr) (H2 : Hp) : Prop :=
  ∃ ps : List (Addr × V × V), ps.map (fun p => p.2.1) = xs.take (min xs.length ys.length) ∧ ps.map (fun p => p.2.2) = ys.take (min xs.length ys.length) ∧ (ps.map (·.1)).Nodup ∧ (∀ p ∈ ps, H p.1 = none ∧ p.1 ≠ L) ∧ H L = none ∧ H2 = upd (layP H ps) L (.lst (ps.map fun p => V.ref p.1))
theorem pairs_back {H : Hp} {xs ys : List V} {us ws : List Value} (r1 : Vals xs us) (r2 : Vals ys ws) : ∀ (acc : List Value) (Pt : Addr → Value → Value → Prop), (∀ (j : Nat) (v : Value), acc[j]? = some v → ∃ T x y, v = .ref T ∧ us[j]? = some x ∧ ws[j]? = some y ∧ Pt T x y) → acc.length = min us.length ws.length →
    ∃ ps : List (Addr × V × V), ps.map (fun p => p.2.1) = xs.take (min xs.length ys.length) ∧ ps.map (fun p => p.2.2) = ys.take (min xs.length ys.length) ∧ acc = ps.map (fun p => Value.ref p.1) ∧ ∀ p ∈ ps, ∃ x y, RelV p.2.1 x ∧ RelV p.2.2 y ∧ Pt p.1 x y := by
  induction r1 generalizing ys ws with
  | nil =>
    intro acc Pt h hl
    have : acc = [] := by
      apply List.eq_nil_of_length_eq_zero
      rw [hl]; simp
    subst this
    exact ⟨[], by simp, by simp, rfl, fun p hp => by cases hp⟩
  | @cons x0 u0 xs0 us0 ra ra' ih =>
    cases r2 with
    | nil =>
      intro acc Pt h hl
      have : acc = [] := by
        apply List.eq_nil_of_length_eq_zero
        rw [hl]; simp
      subst this
      exact ⟨[], by simp, by simp, rfl, fun p hp => by cases hp⟩
    | @cons y0 w0 ys0 ws0 rb rb' =>
      intro acc Pt h hl
      cases acc with
      | nil => simp at hl
      | cons v acc =>
        obtain ⟨T, x, y, e1, e2, e3, pt⟩ := h 0 v rfl
        obtain ⟨ps, q1, q2, q3, q4⟩ := ih rb' acc Pt (fun j v e => h (j + 1) v e) (by simp at hl ⊢; omega)
        cases e2
        cases e3
        refine ⟨(T, x0, y0) :: ps, ?_, ?_, ?_, ?_⟩
        · rw [List.map_cons, q1, List.length_cons, List.length_cons, Nat.succ_min_succ, List.take_succ_cons]
        · rw [List.map_cons, q2, List.length_cons, List.length_cons, Nat.succ_min_succ, List.take_succ_cons]
        · rw [List.map_cons, ← q3, e1]
        · intro p hp
          rcases List.mem_cons.mp hp with rfl | hp
          · exact ⟨_, _, ra, rb, pt⟩
          · exact q4 p hp
theorem nodup_of_ref : ∀ {ls : List Addr}, (ls.map Value.ref).Nodup → ls.Nodup
  | [], _ => List.nodup_nil
  | a :: r, h => by
    rw [List.map_cons, List.nodup_cons] at h
    rw [List.nodup_cons]
    exact ⟨fun z => h.1 (List.mem_map_of_mem z), nodup_of_ref h.2⟩
theorem vals_refs : ∀ (ps : List (Addr × V × V)), Vals (ps.map fun p => V.ref p.1) (ps.map fun p => Value.ref p.1)
  | [] => .nil
  | p :: r => .cons rfl (vals_refs r)
theorem nats1 : ∀ N a b L : Nat, L = N + 5 → a < N → b < N → (L ≠ N + 4 ∧ L ≠ N + 2 ∧ L ≠ N + 3 ∧ L ≠ N ∧ L ≠ N + 1 ∧ L ≠ a ∧ L ≠ b) ∧ N ≤ L ∧ N + 3 < L := by
  intro N a b L h1 h2 h3
  refine ⟨⟨?_, ?_, ?_, ?_, ?_, ?_, ?_⟩, ?_, ?_⟩ <;> omega
theorem nats2 : ∀ N b : Nat, b < N → b ≠ N + 4 ∧ b ≠ N + 3 ∧ b ≠ N ∧ b ≠ N + 1 ∧ b ≠ N + 5 := by
  intro N b h
  refine ⟨?_, ?_, ?_, ?_, ?_⟩ <;> omega
theorem pe_listZip {X : Cx} {e e2 : Expr} {ta : TA} {p pos p2 pos2 : Pos} (hg : Gl X "zip") (hm : X.mg "zip" = none) (hgl : Gl X "list") (hml : X.mg "list" = none) (hc : X.calm = true) (ha : PA X [e, e2] ta)
    (hs : starEach [e, e2] X.env = (false, eval e X.env) :: starEach [e2] X.env) (hpl : (backTo pos (starEach [e2] X.env)).any (·.1) = false) :
    PE X (.Call (.Name "list" p2) [.Call (.Name "zip" p) [e, e2] [] pos] [] pos2) (fun σ H Q => ta σ H fun vs H1 => ∃ ka kb a b xs ys, vs = [.ref a, .ref b] ∧ SqK ka X.K H1 a xs ∧ SqK kb X.K H1 b ys ∧ ∀ L H2, ZipTo H1 xs ys L H2 → Q (.ref L) H2) := by
  refine ⟨fun pins s σ H Q I h => ?_⟩
  refine Call_ (ld_blt I hgl hml boot_list (PyProof.Rows.callWith_type1 (PyProof.Rows.args_cons ?_ rfl) rfl rfl))
  refine Call_ (ld_blt I hg hm PyProof.Rows.boot_zip (PyProof.Rows.callWith_type1 (thn (ha.run pos pins s σ H _ I h) fun us s1 ⟨vs, H1, I1, r1, q1⟩ => ?_) hs hpl))
  obtain ⟨ka, kb, a, b, xs, ys, ex, hqx, hqy, q⟩ := q1
  subst ex
  cases r1 with
  | cons r rr =>
    cases rr with
    | cons r' rr =>
      cases rr
      cases r
      cases r'
      obtain ⟨its, rv, p1, zx⟩ := invK I1 hqx
      obtain ⟨its2, rv2, p2, zy⟩ := invK I1 hqy
      have la := p1.lt
      have lb := p2.lt
      refine zip_made p1 p2 fun h' hz hTI hTO h1 h2 hsz hk => PyProof.Rows.args_nil ?_
      have S := zip_sep2 (N := s1.heap.objs.size) (fp1 := [a]) (fp2 := [b]) (fun c hc => by rw [List.mem_singleton.mp hc]; exact la) (fun c hc => by rw [List.mem_singleton.mp hc]; exact lb)
      have kk : ∀ {k : Bool} {c : Addr} {its : Array Value}, HasK k s1.heap c its → HasK k h' c its := fun {k c its} x => by
        cases k
        · exact Heap.IsList.at x fun o e => hk _ o e
        · exact Heap.IsTuple.at x fun o e => hk _ o e
      have W := lwZip (prog := X.prog) (w := X.w) (A := X.A.in1.in1) (I1.ok.hd hc) (ka := ka) (kb := kb) (a := a) (b := b) (L := h'.objs.size) (N := s1.heap.objs.size) (xs := its.toArray) (ys := its2.toArray) S (Nat.ne_of_lt la) (Nat.ne_of_lt (Nat.lt_succ_of_lt lb))
        (nats1 _ _ _ _ hsz la lb).1 (nats1 _ _ _ _ hsz la lb).2.1 (nats1 _ _ _ _ hsz la lb).2.2
      refine rp_call_list (s := { s1 with heap := h' }) W rp_zip_nolen rp_zip_nohint (by decide) (by decide) (by
          rw [List.size_toArray, List.size_toArray, ← rv.length]
          exact Nat.le_trans (Nat.min_le_left ..) zx) ⟨hTI, ⟨h1, kk p1⟩, ⟨h2, kk p2⟩, .inl ⟨hz, _, _, hTO⟩, rfl, by simp, fun j v e => by simp at e⟩ fun h'' tk acc c' h0 hkk hL st h0k => ?_
      obtain ⟨_, _, _, _, hsz', nd, hacc⟩ := st
      obtain ⟨ps, q1, q2, q3, q4⟩ := pairs_back (H := H1) rv rv2 acc.toList (fun T x y => IsTupOf2 h'' T x y ∧ s1.heap.objs.size ≤ T ∧ T ≠ h'.objs.size) (fun j v e => by
        obtain ⟨T, x, y, e1, e2, e3, e4, e5, t1, t2, t3, t4, t5⟩ := hacc j v (by rw [← Array.getElem?_toList]; exact e)
        exact ⟨T, x, y, e1, by simpa using e2, by simpa using e3, h0k _ _ (by simp only [List.mem_cons, List.not_mem_nil, or_false, not_or]; exact ⟨t1, t2, t3, t4⟩) e4, e5, t5⟩) (by rw [Array.length_toList, hsz', List.size_toArray, List.size_toArray])
      have ndp : (ps.map (·.1)).Nodup := by
        rw [q3] at nd
        have : (ps.map fun p => Value.ref p.1) = (ps.map (·.1)).map Value.ref := by rw [List.map_map]; rfl
        rw [this] at nd
        exact nodup_of_ref nd
      have hfr : ∀ b, s1.heap.objs.size ≤ b → H1 b = none := fun b hb => I1.hok.fresh hb
      have hLn : s1.heap.objs.size ≤ h'.objs.size := (nats1 _ _ _ _ hsz la lb).2.1
      have pfr : ∀ p ∈ ps, H1 p.1 = none ∧ p.1 ≠ h'.objs.size := fun p hp => by
        obtain ⟨x, y, _, _, _, k1, k2⟩ := q4 p hp
        exact ⟨hfr _ k1, k2⟩
      have lL : layP H1 ps h'.objs.size = none := by
        rw [layP_off fun p hp => (pfr p hp).2]
        exact hfr _ hLn
      have same1 : Same H1 (layP H1 ps) := fun b u e => by
        rw [layP_off fun p hp z => by
          have := (pfr p hp).1
          rw [z, e] at this
          cases this]
        exact e
      refine ⟨.ref h'.objs.size, upd (layP H1 ps) h'.objs.size (.lst (ps.map fun p => V.ref p.1)), I1.more (h' := h'') (t' := tk) (fun b u e => ?_) (fun b u e => ?_) (fun b o e n => ?_) (fun b u e => ?_), rfl, q _ _ ⟨ps, q1, q2, ndp, pfr, hfr _ hLn, rfl⟩⟩
      · refine hkk b u ?_ (hk b u e)
        have hb := Heap.lt_size e
        simp only [List.mem_cons, List.not_mem_nil, or_false, not_or]
        obtain ⟨k1, k2, k3, k4, _⟩ := nats2 _ _ hb
        exact ⟨k1, k2, k3, k4⟩
      · have := same1 b u e
        rw [upd_ne (ne_of_none this lL)]
        exact this
      · have hb := Heap.lt_size e
        rw [upd_ne (by rw [hsz]; exact (nats2 _ _ hb).2.2.2.2), layP_off fun p hp z => ?_]
        · exact n
        · obtain ⟨x, y, _, _, _, k1, k2⟩ := q4 p hp
          rw [z] at k1
          exact Nat.lt_irrefl _ (Nat.lt_of_lt_of_le hb k1)
      · by_cases hb : b = h'.objs.size
        · subst hb
          rw [upd_same] at e
          cases e
          refine .inr ⟨?_, acc.toList, c', ?_, by rw [Array.toArray_toList]; exact hL⟩
          · rw [List.length_map]
            have l1 : ps.length = (ps.map fun p => p.2.1).length := by rw [List.length_map]
            rw [l1, q1, List.length_take]
            exact Nat.le_trans (Nat.min_le_right _ _) zx
          · rw [q3]
            exact vals_refs ps
        · rw [upd_ne hb] at e
          rcases layP_some e with e | ⟨p, hp, rfl, rfl⟩
          · exact .inl e
          · obtain ⟨x, y, rx, ry, k0, k1, k2⟩ := q4 p hp
            exact .inr ⟨by show 2 ≤ sizeLine; decide, [x, y], .cons rx (.cons ry .nil), ⟨_, k0, rfl, _, rfl⟩⟩
theorem zip_take : ∀ (xs ys : List D), (xs.take (min xs.length ys.length)).zip (ys.take (min xs.length ys.length)) = xs.zip ys
  | [], _ => by simp
  | _ :: _, [] => by simp
  | x :: xs, y :: ys => by
    rw [List.length_cons, List.length_cons, Nat.succ_min_succ, List.take_succ_cons, List.take_succ_cons, List.zip_cons_cons, List.zip_cons_cons, zip_take xs ys]
section
variable {S : SCtx} {T : Tab} {a b : Expr} {pos p pos2 p2 : Pos} {fa fb : EF}
theorem sfr_listZip (ha : SE S T a fa) (hb : SE S T b fb) (hg : glB S "zip" = true := by decide +kernel) (hgl : glB S "list" = true := by decide +kernel) (hn : noStar a = true := by rfl) (hn2 : noStar b = true := by rfl) :
    SFr S T (.Call (.Name "list" p2) [.Call (.Name "zip" p) [a, b] [] pos] [] pos2) (lCall zipLD (aCons fa (aCons fb aNil))) := fun X g => by
  obtain ⟨q1, q2, q3⟩ := glG g hg
  obtain ⟨l1, l2, l3⟩ := glG g hgl
  refine (pe_listZip q1 (g.blt "zip" (by decide +kernel)) l1 (g.blt "list" (by decide +kernel)) g.calm ((sa_cons ha (sa_cons hb sa_nil hn2) hn).run X g) (by rw [star_cons hn]) (star_any (by rw [List.all_cons, hn2]; rfl) _ _)).imp fun σ H R ⟨ρ, cs, m, G, W, E, F⟩ => ?_
  refine ⟨ρ, cs, m, G, W, E, F.bind.imp fun xs cs1 m1 G1 H1 x1 W1 F1 vs rvs => ?_⟩
  unfold zipLD at F1
  split at F1
  · cases rvs with
    | cons r rr =>
      cases rr with
      | cons r' rr =>
        cases rr
        obtain ⟨ka, a', vs1, ds1, rfl, s1, k1, eq1, F2⟩ := asLT_read W1 r F1.bind
        have F2 := Post.pure W1 F2
        obtain ⟨kb, b', vs2, ds2, rfl, s2, k2, eq2, F3⟩ := asLT_read W1 r' F2.bind
        have F3 := Post.pure W1 F3
        obtain ⟨hfit, F4⟩ := F3.fit
        refine ⟨ka, kb, a', b', vs1, vs2, rfl, s1.ext W1.sub, s2.ext W1.sub, fun L H2 ⟨ps, e1, e2, nd, fr, hL, e3⟩ => ?_⟩
        subst e3
        have n1 := k1.length
        have n2 := k2.length
        obtain ⟨G2, x2, W2, rz⟩ := lay_many W1 (ps := ps) (ds := ds1.take (min ds1.length ds2.length)) (es := ds2.take (min ds1.length ds2.length)) nd (fun p hp => (fr p hp).1) (by rw [e1, n1, n2]; exact Rels.take _ k1) (by rw [e2, n1, n2]; exact Rels.take _ k2)
        have hz : zipL (ds1.take (min ds1.length ds2.length)) (ds2.take (min ds1.length ds2.length)) = zipL ds1 ds2 := by unfold zipL; rw [zip_take]
        rw [hz] at rz
        have hL2 : layP H1 ps L = none := by rw [layP_off fun p hp => (fr p hp).2]; exact hL
        exact F4 m1 G2 _ (x2.trans (Ext.own hL2)) (W2.own hL2) L _ (none_back x1 hL) upd_same (W2.noG hL2) (W2.noM hL2) rz
  · exact F1.elim
end
end RP
end

section
set_option Elab.async false
set_option linter.all false
set_option maxRecDepth 100000
set_option autoImplicit false
set_option maxHeartbeats 1000000
/-! RpX5: len(set(texts)). -/
namespace RP
open PySem
def uniqStep (acc : List Str) (x : Str) : List Str := if acc.any (· == x) = true then acc else acc ++ [x]
/-- the texts that are met first -/
def uniq (xs : List Str) : List Str := xs.foldl uniqStep []
theorem uniq_snoc (xs : List Str) (x : Str) : uniq (xs ++ [x]) = uniqStep (uniq xs) x := by
  unfold uniq
  rw [List.foldl_append]
  rfl
theorem uniq_le (xs : List Str) : (uniq xs).length ≤ xs.length := by
  have : ∀ (xs acc : List Str), (xs.foldl uniqStep acc).length ≤ acc.length + xs.length := by
    intro xs
    induction xs with
    | nil => intro acc; exact Nat.le_refl _
    | cons x xs ih =>
      intro acc
      rw [List.foldl_cons, List.length_cons]
      refine Nat.le_trans (ih _) ?_
      have : (uniqStep acc x).length ≤ acc.length + 1 := by
        unfold uniqStep
        split
        · omega
        · rw [List.length_append]; simp
      omega
  have := this xs []
  simpa [uniq] using this
end RP
namespace RP
open PySem PySem.Spec PyProof.Rows
section
variable {prog : Program} {w : World} {A : Around} {R : Result → Shared → Prop} {I : Addr} {fp wr : List Addr} {G : Array GenState → Array GenState → Prop} {n : Nat} {P : Nat → Value → Prop} {St : Nat → Shared → Prop}
theorem rp_loopStr (W : WalksS prog w A.in1 I fp wr G n P St) (S : Addr) (hSf : S ∉ fp) (xs : List Str) (hsz : xs.length = n) (hn1 : n ≤ 4000)
    (hval : ∀ i v, P i v → ∃ t, v = .str (xs.getD i Str.empty) t) :
    ∀ (k i : Nat) (s : Shared), n - i = k → i ≤ n → St i s →
      s.heap.SetOf (PySem.strKind prog w) S (fun k' => (uniq (xs.take i)).any (· == k')) (uniq (xs.take i)).length →
      (∀ s', Moved (S :: wr) G s s' → s'.heap.SetOf (PySem.strKind prog w) S (fun k' => (uniq (xs.take n)).any (· == k')) (uniq (xs.take n)).length → R (.ok (.ret .none)) s') →
      codeAny (model prog w) A (.builtin "set.update.loop" ⟨[.ref S, .ref I], []⟩) R s := by
  have hSw : S ∉ wr := fun h => hSf (W.sub _ h)
  have hsub : ∀ b ∈ wr, b ∈ S :: wr := fun b hb => List.mem_cons_of_mem _ hb
  intro k
  induction k with
  | zero =>
    intro i s hk hi hst hS hR
    have hin : i = n := by omega
    subst hin
    refine codeAny_builtin PyProof.Rows.F.entry_set_update_loop ?_
    rw [Around.under_plainId PyProof.Rows.F.plain_set_update_loop _]
    show wpAny _ A.in1 (pyNext (.ref I) >>= _) _ _ s
    refine wpAny_bind (W.done s _ _ hst fun s' hm => ?_)
    show wpAny _ A.in1 (ret Value.none) _ _ s'
    exact wpAny_pure (hR s' (hm.mono hsub) (by
      obtain ⟨o, es, ep, t, ho, rest⟩ := hS
      exact ⟨o, es, ep, t, hm.heap S _ hSw ho, rest⟩))
  | succ k ih =>
    intro i s hk hi hst hS hR
    have hlt : i < n := by omega
    refine codeAny_builtin PyProof.Rows.F.entry_set_update_loop ?_
    rw [Around.under_plainId PyProof.Rows.F.plain_set_update_loop _]
    show wpAny _ A.in1 (pyNext (.ref I) >>= _) _ _ s
    refine wpAny_bind (W.item i s _ _ hlt hst fun v s' hP hst' hm => ?_)
    obtain ⟨t, rfl⟩ := hval i v hP
    have hS' : s'.heap.SetOf (PySem.strKind prog w) S (fun k' => (uniq (xs.take i)).any (· == k')) (uniq (xs.take i)).length := by
      obtain ⟨o, es, ep, tb, ho, rest⟩ := hS
      exact ⟨o, es, ep, tb, hm.heap S _ hSw ho, rest⟩
    have hul : (uniq (xs.take i)).length ≤ i := by
      have := uniq_le (xs.take i)
      rw [List.length_take] at this
      omega
    show wpAny _ A.in1 (holding [Value.str (xs.getD i Str.empty) t] (setAdd S (.str (xs.getD i Str.empty) t)) >>= _) _ _ s'
    refine wpAny_bind (wpAny_holding ?_)
    unfold setAdd
    refine wpAny_holding ?_
    refine wpAny_bind ((PySem.strKind prog w).pyHash (k := xs.getD i Str.empty) (strKind_is _ _ _ _) ?_)
    refine wpAny_setAddHashed_of (knd := PySem.strKind prog w) (s := { s' with toks := s'.toks + 1 }) (strKind_is _ _ _ _) rfl hS' (by unfold scanBound; omega) fun h' hsb hS2 => ?_
    have e1 : xs.take (i + 1) = xs.take i ++ [xs.getD i Str.empty] := by
      rw [List.take_add_one, List.getD_eq_getElem?_getD, List.getElem?_eq_getElem (by omega)]
      rfl
    have hSi : h'.SetOf (PySem.strKind prog w) S (fun k' => (uniq (xs.take (i + 1))).any (· == k')) (uniq (xs.take (i + 1))).length := by
      refine SetOf_congr hS2 (fun k' => ?_) ?_
      · rw [e1, uniq_snoc]
        unfold uniqStep
        split
        · rename_i hb
          by_cases e : k' = xs.getD i Str.empty
          · subst e
            rw [hb]; simp
          · rw [decide_eq_false e, Bool.or_false]
        · rw [List.any_append]
          congr 1
          by_cases e : k' = xs.getD i Str.empty
          · subst e; simp
          · rw [decide_eq_false e, List.any_cons, List.any_nil, Bool.or_false]
            exact (beq_eq_false_iff_ne.mpr fun z => e z.symm).symm
      · rw [e1, uniq_snoc]
        unfold uniqStep
        split
        · rfl
        · rw [List.length_append]
          rfl
    refine wpAny_pure ⟨plainId_quiet PyProof.Rows.F.plain_set_update_loop _, ih (i + 1) _ (by omega) hlt (W.frame _ s' _ _ hst' (Nat.le_succ _) fun b hb o e => ?_) hSi fun s'' hm'' hS'' => ?_⟩
    · rw [hsb.2 b (fun h : b = S => hSf (by rw [← h]; exact hb))]; exact e
    · refine hR s'' (Moved.trans W.gtrans ((hm.mono hsub).then_heap (Nat.le_succ _) fun b o hb e => ?_) hm'') hS''
      rw [hsb.2 b (fun h : b = S => hb (by rw [h]; exact List.mem_cons_self))]; exact e
end
section
variable {prog : Program} {w : World} {A : Around} {E : Value → Shared → Prop} {s : Shared}
set_option maxHeartbeats 3200000 in
theorem rp_call_set_list {l : Addr} {items : Array Value} {xs : List Str} {Q : Value → Shared → Prop}
    (hh : A.handled = none) (hl : s.heap.IsList l items) (hi : PyProof.Rows.StrsAre items.toList xs) (hn1 : xs.length ≤ 4000)
    (h : ∀ (h' : Heap) (tk : Nat), h'.SetOf (PySem.strKind prog w) s.heap.objs.size (fun k' => (uniq (xs.take items.size)).any (· == k')) (uniq (xs.take items.size)).length →
      (∀ b o, b < s.heap.objs.size → s.heap.get? b = some o → h'.get? b = some o) → Q (.ref s.heap.objs.size) { s with heap := h', toks := tk }) :
    wpAny (model prog w) A (call (.type "set") [.ref l]) Q E s := by
  obtain ⟨c, tl, hmro⟩ := PySem.F.called_set.mro
  have hmade := PySem.F.called_set.made
  have hsub := PySem.F.called_set.sub
  refine wpAny_call (codeAny_of_tree ?_)
  show wpAny _ _ (callAny (.type "set") _) _ _ _
  refine wpAny_pure ⟨Code.quiet_builtin _ (by decide +kernel), codeAny_builtin PySem.F.entry_type_call ?_⟩
  rw [Around.under_plain (weight_type_call_type "set" [.ref l] []) rfl]
  have h1 := PySem.F.called_set.notType
  have h2 := PySem.F.called_set.canCreate
  have hct := PySem.F.typeCall_set_1 (.ref l)
  repeat (any_goals (first | assumption | wp_step))

  refine codeAny_mono (code_set_new_1 (.ref l) (E := E) (Q₁ := fun obj s₁ => ∃ led : Bool, obj = .ref s.heap.objs.size ∧ s₁ = { s with heap := s.heap.push { cls := .type "set", dict := none, data := .set #[] 0 (.fresh 0 0 led) } }) fun led => ⟨led, rfl, rfl⟩) fun r s₁ hr => ?_
  cases r with
  | error e => exact hr
  | ok fl =>
    cases fl with
    | ret obj =>
      obtain ⟨led, rfl, rfl⟩ := hr
      have hS : (s.heap.push { cls := .type "set", dict := none, data := .set #[] 0 (.fresh 0 0 led) }).get? s.heap.objs.size = some { cls := .type "set", dict := none, data := .set #[] 0 (.fresh 0 0 led) } := Heap.get?_push_size _ rfl
      have hT : Shared.TypeIs { s with heap := s.heap.push { cls := .type "set", dict := none, data := .set #[] 0 (.fresh 0 0 led) } } (.ref s.heap.objs.size) "set" := ⟨_, hS, rfl⟩
      have hli := PySem.F.called_set.init.lookup
      have hbi := PySem.F.called_set.init.bind (.ref s.heap.objs.size)
      repeat (any_goals (first | assumption | wp_step))

      refine codeAny_mono (codeAny_call_builtin (R := wants (fun r s₂ => r = .none ∧ ∃ h' tk, s₂ = { s with heap := h', toks := tk } ∧
          h'.SetOf (PySem.strKind prog w) s.heap.objs.size (fun k' => (uniq (xs.take items.size)).any (· == k')) (uniq (xs.take items.size)).length ∧
          (∀ b o, b < s.heap.objs.size → s.heap.get? b = some o → h'.get? b = some o)) E) PySem.F.called_set.init.plain PySem.F.entry_set_init (check_set_init_1 hT ?_)) fun r₂ s₂ hr₂ => ?_
      · obtain ⟨ol, hol, hcl, nl, hdl⟩ := hl
        obtain ⟨ocls, odict, odata, oslots⟩ := ol
        simp only at hcl hdl
        subst hcl; subst hdl
        have hol' : (s.heap.push { cls := .type "set", dict := none, data := .set #[] 0 (.fresh 0 0 led) }).get? l = some { cls := .type "list", dict := odict, data := .seq items nl, slots := oslots } := Heap.get?_push_of_some _ hol
        have hsls := PySem.F.sub_list_set
        have hslf := PySem.F.sub_list_frozenset
        have hne : (Value.type "list" == Value.type "dict") = false := by decide
        have hl1 : (s.heap.push { cls := .type "set", dict := none, data := .set #[] 0 (.fresh 0 0 led) }).IsList l items := ⟨_, hol', rfl, nl, rfl⟩
        unfold Builtin.«set.__init__» noKeywords Builtin.Frozenset.updateFrom
        generalize hPI : pyIter = PI
        wp_walk
        subst hPI

        refine wpAny_pyIter_list hl1 ?_
        refine wpAny_bind (wpAny_runValue ?_)
        have hlS : l < s.heap.objs.size := Heap.lt_size hol
        have hh3 : A.in1.in1.in1.handled = none := by simp [hh]
        have hneI : l ≠ (s.heap.push { cls := .type "set", dict := none, data := .set #[] 0 (.fresh 0 0 led) }).objs.size := by
          rw [Heap.size_push]; exact Nat.ne_of_lt (Nat.lt_succ_of_lt hlS)
        have hSf : s.heap.objs.size ∉ [(s.heap.push { cls := .type "set", dict := none, data := .set #[] 0 (.fresh 0 0 led) }).objs.size, l] := by
          rw [Heap.size_push]; simp only [List.mem_cons, List.mem_singleton, List.not_mem_nil, or_false, not_or]
          exact ⟨Nat.ne_of_lt (Nat.lt_succ_self _), Nat.ne_of_gt hlS⟩
        have hsz : xs.length = items.size := by rw [← StrsAre.len_eq hi, Array.length_toList]
        have hval : ∀ (i : Nat) (v : Value), items[i]? = some v → ∃ t, v = .str (xs.getD i Str.empty) t := fun i v hv => SS.strs_at hi i v (by rw [Array.getElem?_toList]; exact hv)
        refine rp_loopStr ((Walks.list hh3 _ l hneI items).toS) s.heap.objs.size
          hSf xs hsz (by rw [← hsz]; exact hn1) hval (items.size - 0) 0 _ (by omega) (Nat.zero_le _)
          ⟨⟨_, Heap.get?_push_size _ rfl, rfl, rfl⟩, (hl1.push _)⟩ ?hS0 ?hR
        case hS0 =>
          have hget : ((s.heap.push { cls := .type "set", dict := none, data := .set #[] 0 (.fresh 0 0 led) }).push { cls := .type "list_iterator", data := .fields #[.ref l, .int 0 0] }).get? s.heap.objs.size
              = some { cls := .type "set", dict := none, data := .set #[] 0 (.fresh 0 0 led) } := Heap.get?_push_of_some _ hS
          exact PyProof.Rows.SetOf_congr ((PyProof.Rows.setObjOf_fresh (knd := PySem.strKind prog w) led).setOf hget (by unfold scanBound; omega)) (fun _ => by rw [List.take_zero]; rfl) (by rw [List.take_zero]; rfl)
        case hR =>
          intro s' hm hS'
          obtain ⟨h', g', d', tk', os'⟩ := s'
          have eg : g' = s.gens := hm.gens
          have ed : d' = s.drawn := hm.drawn
          have eo : os' = s.os := hm.os
          subst eg; subst ed; subst eo
          show wpAny _ _ _ _ _ _
          refine wpAny_pure ?_
          show wpAny _ _ (ret Value.none) _ _ _
          refine wpAny_pure ⟨rfl, h', tk', rfl, hS', fun b o hb e => ?_⟩
          have hb1 : b ≠ s.heap.objs.size := Nat.ne_of_lt hb
          have hb2 : b ≠ (s.heap.push { cls := .type "set", dict := none, data := .set #[] 0 (.fresh 0 0 led) }).objs.size := by
            rw [Heap.size_push]; exact Nat.ne_of_lt (Nat.lt_succ_of_lt hb)
          exact hm.heap b o (by simp only [List.mem_cons, List.mem_singleton, List.not_mem_nil, or_false, not_or]; exact ⟨hb1, hb2⟩) (Heap.get?_push_of_some _ (Heap.get?_push_of_some _ e))

      · cases r₂ with
        | error e => exact hr₂
        | ok fl₂ =>
          cases fl₂ with
          | ret r =>
            obtain ⟨rfl, h', tk, rfl, hS', hk'⟩ := hr₂
            repeat (any_goals (first | assumption | wp_step))
            exact h _ _ hS' hk'
          | _ => exact hr₂.elim
    | _ => exact hr.elim

end
end RP
end

section
set_option Elab.async false
set_option linter.all false
set_option maxRecDepth 100000
set_option autoImplicit false
set_option maxHeartbeats 1000000
/-! RpX6: len(set(texts)), tuple(range), products, t[::-1], t.index, dict(pairs), a, b = x, y. -/
namespace RP
open PySem PySem.Spec PyProof.Rows L2
/-- len(set(xs)) of a list of texts -/
def lenSetD : List D → M D
  | [.lst xs] => allStr xs >>= fun ss => need (decide (ss.length ≤ 4000)) (pure (.int ((uniq ss).length : Nat)))
  | _ => M.bad
theorem pe_lenSetS {X : Cx} {a : Expr} {ta : TA} {p p2 q pos : Pos} (hc : X.calm = true) (hg : Gl X "len") (hm : X.mg "len" = none) (hg2 : Gl X "set") (hm2 : X.mg "set" = none) (ha : PA X [a] ta)
    (na : starEach [a] X.env = (false, eval a X.env) :: starEach [] X.env) : PE X (.Call (.Name "len" p) [.Call (.Name "set" p2) [a] [] q] [] pos) (fun σ H Q => ta σ H fun vs H1 => ∃ l, ∃ xs : List Str, vs = [.ref l] ∧ SqL X.K H1 l (xs.map V.str) ∧ xs.length ≤ 4000 ∧ Q (.int ((uniq xs).length : Nat)) H1) := by
  refine ⟨fun pins s σ H Q I h => ?_⟩
  refine Call_ (ld_blt I hg hm boot_len ?_)
  refine PyProof.Rows.callWith_builtin1 (PyProof.Rows.args_cons ?_ rfl) rfl rfl
  refine Call_ (ld_blt I hg2 hm2 boot_set ?_)
  refine PyProof.Rows.callWith_type1 (thn (ha.run q pins s σ H _ I h) fun us s1 ⟨vs, H1, I1, r1, q1⟩ => ?_) na rfl
  obtain ⟨l, xs, rfl, hq, h1, q1⟩ := q1
  cases r1 with
  | cons r rr =>
    cases rr
    cases r
    obtain ⟨its, r, pl, hz⟩ := I1.list hq
    refine rp_call_set_list (I1.ok.hd hc) pl.isList (by simpa using strsAre_of r) h1 fun h' tk hS hk => ?_
    refine PyProof.Rows.args_nil ?_
    have hl : its.toArray.size = xs.length := by rw [List.size_toArray, ← r.length, List.length_map]
    rw [hl, List.take_length] at hS
    have hu := uniq_le xs
    obtain ⟨o, es, ep, t, ho, hex, hd, _, _, _, hf, hn⟩ := hS
    have I2 : Inv X pins σ H1 { s1 with heap := h', toks := tk } := I1.kept fun b o e => hk b o (Heap.lt_size e) e
    exact call_len_set ho hex hd hf (by rw [hn]; omega) ⟨.int ((uniq xs).length : Nat), H1, I2.tok _, ⟨_, by rw [hn]⟩, q1⟩
section
variable {S : SCtx} {T : Tab} {a b : Expr} {pos p pos2 p2 : Pos} {fa fb : EF}
theorem se_lenSet (ha : SO S T a fa) (hg : glB S "len" = true := by decide +kernel) (hgl : glB S "set" = true := by decide +kernel) (hn : noStar a = true := by rfl) :
    SE S T (.Call (.Name "len" p2) [.Call (.Name "set" p) [a] [] pos] [] pos2) (eCall lenSetD (aCons fa aNil)) := fun X g => by
  obtain ⟨q1, q2, q3⟩ := glG g hg
  obtain ⟨l1, l2, l3⟩ := glG g hgl
  refine (pe_lenSetS g.calm q1 (g.blt "len" (by decide +kernel)) l1 (g.blt "set" (by decide +kernel)) ((sb_cons ha sb_nil hn).run X g) (star_cons hn [] X.env)).imp fun σ H R ⟨ρ, cs, m, G, W, E, F⟩ => ?_
  refine ⟨ρ, cs, m, G, W, E, F.bind.imp fun xs cs1 m1 G1 H1 x1 W1 F1 vs rvs => ?_⟩
  unfold lenSetD at F1
  split at F1
  · cases rvs with
    | cons r rr =>
      cases rr
      obtain ⟨a', ws, rfl, h1, r2⟩ := r.lst W1
      obtain ⟨ss, rfl, rfl, hok, F2⟩ := allStr_read W1 r2 F1.bind
      obtain ⟨hb, F3⟩ := F2.need
      exact ⟨a', ss, rfl, SqL.of h1, of_decide_eq_true hb, Post.pure W1 F3 _ (.int _)⟩
  · exact F1.elim
end
end RP
namespace RP
open PySem PySem.Spec PyProof.Rows L2
/-! ### a, b = x, y -/
def plainV : Expr → Bool
  | .Starred _ _ => false
  | _ => true
/-- a, b = x, y is stored from the right -/
def parB (S : SCtx) (i j : Nat) (x y : Str) (px py : Pos) (a b : Expr) : Bool :=
  decide (S.N[i]? = some x) && decide (S.N[j]? = some y) && decide (S.sc.kind = .function) && decide (S.sc.names.lookup x = some .local) && decide (S.sc.names.lookup y = some .local) && (py.line == px.line) && !decide (x = y) && !decide (i = j) &&
    plainV a && plainV b && !([a, b].all (foldedForSure 8)) && !([a, b].all (constantsAlone 8))
/-- .. one of the names is a cell: not so -/
def parK (S : SCtx) (x y : Str) (a b : Expr) : Bool := (decide (S.sc.names.lookup x = some .cell) || decide (S.sc.names.lookup y = some .cell)) || [a, b].all (foldedForSure 8)
theorem swapped_par {S : SCtx} {T : Tab} {X : Cx} (g : Good S T X) {i j : Nat} {x y : Str} {px py pt pt2 : Pos} {a b : Expr} {kt k2 : Nat} (h : parB S i j x y px py a b = true) :
    swappedStores [.Tuple [.Name x px, .Name y py] kt pt] (.Tuple [a, b] k2 pt2) X.env = pure (some [x, y]) := by
  unfold parB at h
  simp only [Bool.and_eq_true, decide_eq_true_eq, Bool.not_eq_true', decide_eq_false_iff_not, beq_iff_eq] at h
  obtain ⟨⟨⟨⟨⟨⟨⟨⟨⟨⟨⟨h1, h2⟩, h3⟩, h4⟩, h5⟩, h6⟩, h7⟩, h8⟩, h9⟩, h10⟩, h11⟩, h12⟩ := h
  have k1 : X.env.kindOf x = some .local := by show X.env.scope.names.lookup x = _; rw [g.sc]; exact h4
  have k2' : X.env.kindOf y = some .local := by show X.env.scope.names.lookup y = _; rw [g.sc]; exact h5
  have k3 : X.env.blockKind = .function := by
    show (if X.env.scope.kind.isAnnotationScope then ScopeKind.function else X.env.scope.kind) = _
    rw [show X.env.scope.kind = ScopeKind.function by rw [g.sc]; exact h3]
    rfl
  have n1 : ([a, b].any fun | .Starred .. => true | _ => false) = false := by
    have e9 : ∀ e : Expr, plainV e = true → (match e with | .Starred .. => true | _ => false) = false := by
      intro e h
      cases e <;> first | rfl | simp [plainV] at h
    rw [List.any_cons, e9 a h9, List.any_cons, e9 b h10]
    rfl
  have n2 : ([x, y].eraseDups).length = 2 := by
    rw [List.eraseDups_cons, List.filter_cons]
    have : (!y == x) = true := by
      rw [Bool.not_eq_true']
      exact beq_eq_false_iff_ne.mpr fun e => h7 e.symm
    rw [if_pos this]
    rfl
  unfold swappedStores
  simp only [k3]
  refine (if_neg ?_).trans ?_
  · exact fun z => Bool.false_ne_true (show false = true from z)
  refine (if_neg ?_).trans ?_
  · exact fun z => Bool.false_ne_true (n1.symm.trans z)
  have n3 : ∀ (f : Expr → Option Str), f (.Name x px) = some x → f (.Name y py) = some y → List.filterMap f [.Name x px, .Name y py] = [x, y] := fun f e1 e2 => by
    rw [List.filterMap_cons, e1, List.filterMap_cons, e2]; rfl
  have hl : (px.line == (Option.map (fun (x : Expr) => x.pos.line) [Expr.Name x px, Expr.Name y py].head?).getD 0) = true := by simp [Expr.pos]
  have hl2 : (py.line == (Option.map (fun (x : Expr) => x.pos.line) [Expr.Name x px, Expr.Name y py].head?).getD 0) = true := by rw [h6]; simp [Expr.pos]
  rw [n3 _ (by dsimp only; rw [k1, hl]; rfl) (by dsimp only; rw [k2', hl2]; rfl)]
  refine (if_neg ?_).trans ?_
  · rw [n2]; exact fun z => Bool.false_ne_true (show false = true from z)
  refine (if_neg ?_).trans ?_
  · rw [h11]; exact Bool.false_ne_true
  refine (if_neg ?_).trans rfl
  rw [h12]; exact Bool.false_ne_true
theorem swapped_none {S : SCtx} {T : Tab} {X : Cx} (g : Good S T X) {x y : Str} {px py pt pt2 : Pos} {a b : Expr} {kt k2 : Nat} (h : parK S x y a b = true) :
    swappedStores [.Tuple [.Name x px, .Name y py] kt pt] (.Tuple [a, b] k2 pt2) X.env = pure none := by
  unfold parK at h
  rw [Bool.or_eq_true, Bool.or_eq_true, decide_eq_true_eq, decide_eq_true_eq] at h
  unfold swappedStores
  dsimp only
  split
  · rfl
  · split
    · rfl
    · rcases h with h | h
      · have hk : X.env.kindOf x = some .cell ∨ X.env.kindOf y = some .cell := by
          show X.env.scope.names.lookup x = _ ∨ X.env.scope.names.lookup y = _
          rw [g.sc]; exact h
        rw [if_pos]
        have c : (some NameKind.cell == some NameKind.local) = false := by decide
        rcases hk with hk | hk
        · rw [List.filterMap_cons]
          simp only [hk, c, Bool.false_and, if_false, Bool.false_eq_true]
          rw [List.filterMap_cons]
          split
          · rfl
          · rfl
        · rw [List.filterMap_cons]
          split
          · rw [List.filterMap_cons]
            simp only [hk, c, Bool.false_and, if_false, Bool.false_eq_true]
            rfl
          · rw [List.filterMap_cons]
            simp only [hk, c, Bool.false_and, if_false, Bool.false_eq_true]
            rfl
      · split
        · rfl
        · rfl
theorem wide_tuple {tg : Expr} {es : List Expr} {k2 : Nat} {pt2 : Pos} {line : Nat} {env : PySem.Env} : swapsWithSole [tg] (.Tuple es k2 pt2) line env = pure false := by rfl
section
variable {S : SCtx} {T : Tab} {a b : Expr} {pos px py pt pt2 : Pos} {x y : Str} {kt k2 : Nat} {xf yf : XF} {vs : List Nat} {gf : GF} {f : EF}
theorem par_read {K : PySem.W.Frag} {m0 : List Addr} {G0 H0 : Hp} {Dn : Ends} {σ : St} {H : Hp} {i j : Nat} (h : tS K m0 G0 H0 (sPar i j xf yf) Dn σ H) : tX K xf σ H fun v H1 => tX K yf σ H1 fun w H2 => ∃ v' w', [v, w] = [v', w'] ∧ Dn.nx ((σ.set i (some v')).set j (some w')) H2 := by
  obtain ⟨ρ, cs, m, G, x, W, E, F⟩ := h
  refine ⟨ρ, cs, m, G, W, E.e, (F.bindB m G H).imp fun s cs1 m1 G1 H1 x1 W1 F1 ne v rv fr => ?_⟩
  refine ⟨ρ, cs1, m1, G1, W1, E.e.ext x1, (F1.bindB m1 G1 H1).imp fun u cs2 m2 G2 H2 x2 W2 F2 ne2 w rw' fr2 => ?_⟩
  exact ⟨v, w, rfl, Post.now F2 ((x.trans x1).trans x2) W2 _ ((E.setX x1 x.stay ne rv fr i).setX x2 (x.trans x1).stay ne2 rw' fr2 j)⟩
theorem ss_par (i j : Nat) (ha : SX S T a xf) (hb : SX S T b yf) (h : parB S i j x y px py a b = true := by decide +kernel) :
    SS S T (.Assign [.Tuple [.Name x px, .Name y py] kt pt] (.Tuple [a, b] k2 pt2) pos) (sPar i j xf yf) := fun X g m0 G0 H0 => by
  have hw := swapped_par g (pt := pt) (pt2 := pt2) (kt := kt) (k2 := k2) h
  unfold parB at h
  simp only [Bool.and_eq_true, decide_eq_true_eq, Bool.not_eq_true', decide_eq_false_iff_not, beq_iff_eq] at h
  obtain ⟨⟨⟨⟨⟨⟨⟨⟨⟨⟨⟨h1, h2⟩, h3⟩, h4⟩, h5⟩, h6⟩, h7⟩, h8⟩, h9⟩, h10⟩, h11⟩, h12⟩ := h
  have na : noStar a = true := by cases a <;> first | rfl | simp [plainV] at h9
  have nb : noStar b = true := by cases b <;> first | rfl | simp [plainV] at h10
  refine (ps_par g.calm g.nd (by rw [g.N]; exact h1) (by rw [g.N]; exact h2) h8 (by rw [g.sc]; exact h4) (by rw [g.sc]; exact h5) (pa_cons (ha X g) (pa_cons (hb X g) pa_nil (star_cons nb [] X.env)) (star_cons na [b] X.env)) hw wide_tuple).imp fun Dn σ H k => ?_
  exact par_read k
theorem ss_asgK (h : SE S T (.Tuple [a, b] k2 pt2) f) (hg : SG S T (.Tuple [.Name x px, .Name y py] kt pt) vs gf) (hk : parK S x y a b = true := by decide +kernel) :
    SS S T (.Assign [.Tuple [.Name x px, .Name y py] kt pt] (.Tuple [a, b] k2 pt2) pos) (sAsg gf f) := fun X g m0 G0 H0 =>
  (ps_asg (h X g) (hg X g) wide_tuple (swapped_none g hk) rfl).imp fun Dn σ H k => asg_read k
theorem parK_read {K : PySem.W.Frag} {m0 : List Addr} {G0 H0 : Hp} {Dn : Ends} {σ : St} {H : Hp} {i j : Nat} (h : tS K m0 G0 H0 (sPar i j xf yf) Dn σ H) : tX K xf σ H fun v H1 => tX K yf σ H1 fun w H2 => ∀ p, H2 p = none → Dn.nx ((σ.set i (some v)).set j (some w)) (upd H2 p (.tup [v, w])) := by
  obtain ⟨ρ, cs, m, G, x, W, E, F⟩ := h
  refine ⟨ρ, cs, m, G, W, E.e, (F.bindB m G H).imp fun s cs1 m1 G1 H1 x1 W1 F1 ne v rv fr => ?_⟩
  refine ⟨ρ, cs1, m1, G1, W1, E.e.ext x1, (F1.bindB m1 G1 H1).imp fun u cs2 m2 G2 H2 x2 W2 F2 ne2 w rw' fr2 p hp => ?_⟩
  exact Post.now F2 (((x.trans x1).trans x2).trans (Ext.own hp)) (W2.own hp) _ (((E.setX x1 x.stay ne rv fr i).setX x2 (x.trans x1).stay ne2 rw' fr2 j).ext (Ext.own hp))
/-- a, b = x, y where a name is a cell: by the pair -/
theorem ss_parK (i j : Nat) (ha : SX S T a xf) (hb : SX S T b yf) (hl : locB S i x = true := by decide +kernel) (hl2 : locB S j y = true := by decide +kernel) (hk : parK S x y a b = true := by decide +kernel) (na : noStar a = true := by rfl) (nb : noStar b = true := by rfl) :
    SS S T (.Assign [.Tuple [.Name x px, .Name y py] kt pt] (.Tuple [a, b] k2 pt2) pos) (sPar i j xf yf) := fun X g m0 G0 H0 => by
  obtain ⟨q1, q2, q3⟩ := locG g hl
  obtain ⟨r1, r2, r3⟩ := locG g hl2
  refine (ps_asg (pe_tup (pa_cons (ha X g) (pa_cons (hb X g) pa_nil (star_cons nb [] X.env)) (star_cons na [b] X.env))) (pg_tup (n := 2) g.calm (pgs_cons (pg_name g.nd q1 q2 q3) (pgs_cons (pg_name g.nd r1 r2 r3) pgs_nil)))
    wide_tuple (swapped_none g hk) rfl).imp fun Dn σ H k => ?_
  obtain ⟨ρ, cs, m, G, W, E, F⟩ := parK_read k
  refine ⟨ρ, cs, m, G, W, E, F.imp fun s cs1 m1 G1 H1 x1 W1 F1 ne v rv fr => ?_⟩
  obtain ⟨ρ', cs', m', G', W', E', F'⟩ := F1 ne v rv fr
  refine ⟨ρ', cs', m', G', W', E', F'.imp fun u cs2 m2 G2 H2 x2 W2 F2 ne2 w rw' fr2 => ?_⟩
  exact ⟨by show 2 ≤ sizeLine; decide, fun p hp => ⟨p, [v, w], rfl, SqT.of upd_same, rfl, v, [w], rfl, w, [], rfl, rfl, F2 ne2 w rw' fr2 p hp⟩⟩
end
end RP
end

section
set_option Elab.async false
set_option linter.all false
set_option maxRecDepth 100000
set_option autoImplicit false
set_option maxHeartbeats 4000000
/-! RpX7: products, tuples of ranges, t[::-1], t.index, dict(pairs). -/
namespace RP
open PySem PySem.Spec PyProof.Rows L2
theorem tuple_mulSame (l : Addr) (items : Array Value) (n : Nat) (dd : Option Addr) (sl : Array (Option Value)) (x : Int) (u : Tok) (c0 : (decide (x < -(2 ^ 63)) || decide (x ≥ 2 ^ 63)) = false) (c1 : (items.isEmpty || x == 1) = true) :
    Meets (Builtin.«tuple.__mul__» ⟨[.ref l, .int x u], []⟩) (fun _ R s => s.heap.get? l = some { cls := .type "tuple", dict := dd, data := .seq items n, slots := sl } ∧ R (.ok (.ret (Value.ref l))) s) :=
  .of_wp fun prog w A R s h => by
    obtain ⟨hp, g, d, tk, os⟩ := s
    obtain ⟨hl, h⟩ := h
    have f1 := AutoSeq1.idx_int
    wp_walk using wpAny_loadPart' hl
    repeat (first
      | (refine wpAny_ite_false (decide_eq_false (by rw [c0]; exact Bool.false_ne_true)) ?_; wp_walk using wpAny_loadPart' hl)
      | (refine wpAny_ite_true (decide_eq_true c1) ?_; wp_walk using wpAny_loadPart' hl))
    exact ⟨_, rfl, h⟩
theorem tuple_mulZero (l : Addr) (items : Array Value) (n : Nat) (dd : Option Addr) (sl : Array (Option Value)) (x : Int) (u : Tok) (c0 : (decide (x < -(2 ^ 63)) || decide (x ≥ 2 ^ 63)) = false) (c1 : (items.isEmpty || x == 1) = false) (c2 : (decide (x ≤ 0) || items.isEmpty) = true) :
    Meets (Builtin.«tuple.__mul__» ⟨[.ref l, .int x u], []⟩) (fun _ R s => s.heap.get? l = some { cls := .type "tuple", dict := dd, data := .seq items n, slots := sl } ∧
      R (.ok (.ret (Value.ref s.heap.objs.size))) { s with heap := s.heap.push { cls := Value.type "tuple", data := Data.seq #[] }, toks := s.toks }) :=
  .of_wp fun prog w A R s h => by
    obtain ⟨hp, g, d, tk, os⟩ := s
    obtain ⟨hl, h⟩ := h
    have f1 := AutoSeq1.idx_int
    wp_walk using wpAny_loadPart' hl
    repeat (first
      | (refine wpAny_ite_false (decide_eq_false (by rw [c0]; exact Bool.false_ne_true)) ?_; wp_walk using wpAny_loadPart' hl)
      | (refine wpAny_ite_false (decide_eq_false (by rw [c1]; exact Bool.false_ne_true)) ?_; wp_walk using wpAny_loadPart' hl)
      | (refine wpAny_ite_true (decide_eq_true c2) ?_; wp_walk using wpAny_loadPart' hl))
    exact ⟨_, rfl, h⟩
def rRepS (K : PySem.W.Frag) : R2 := fun x y H Q => ∃ l k xs, x = .ref l ∧ y = .int k ∧ SqT K H l xs ∧ (xs = [] ∨ k = 1) ∧ 0 ≤ k ∧ k ≤ 1000 ∧ Q (.ref l) H
def rRepZ (K : PySem.W.Frag) : R2 := fun x y H Q => ∃ l xs, x = .ref l ∧ y = .int 0 ∧ SqT K H l xs ∧ xs ≠ [] ∧ ∀ p, H p = none → Q (.ref p) (upd H p (.tup []))
section
variable {X : Cx}
theorem op_repS : OpR X (binaryOp .Mult) (rRepS X.K) := by
  intro pins s σ H x y v u Q I rx ry h
  obtain ⟨l, k, xs, rfl, rfl, hT, hk, h1, h2, q⟩ := h
  cases rx
  obtain ⟨t, rfl⟩ := ry
  obtain ⟨its, r, ⟨⟨cls, dd, data, sl⟩, ho, hc, n, hd⟩, hs⟩ := I.tuple hT
  simp only at hc hd
  subst hc hd
  have c0 : (decide (k < -(2 ^ 63)) || decide (k ≥ 2 ^ 63)) = false := by
    rw [decide_eq_false (by omega), decide_eq_false (by omega)] <;> rfl
  have c1 : (its.toArray.isEmpty || k == 1) = true := by
    rcases hk with e | e
    · subst e
      have : its = [] := List.eq_nil_of_length_eq_zero r.length.symm
      subst this
      rfl
    · subst e
      simp
  refine wpAny_binaryOp_repeat_ref (T := "tuple") (U := "int") (by decide) ⟨_, ho, rfl⟩ (fun s' => typeIs_int s' k t) noFill_tuple_mul F.fills_int_mul F.slot_int_rmul repeat_tuple F.slot_int_index.lookup
    (call_meets F.slot_int_rmul (typeIs_int s k t) F.entry_int_rmul (F.args_int_rmul_2 _ _) (int_rmul_tuple k t l its.toArray n dd sl)
      ⟨ho, rfl, ⟨_, ho, rfl⟩, call_meets F.slot_tuple_mul ⟨_, ho, rfl⟩ F.entry_tuple_mul (F.args_tuple_mul_2 _ _) (tuple_mulSame l its.toArray n dd sl k t c0 c1) ⟨ho, ?_⟩⟩)
  exact ⟨.ref l, H, I, rfl, q⟩
theorem op_repZ : OpR X (binaryOp .Mult) (rRepZ X.K) := by
  intro pins s σ H x y v u Q I rx ry h
  obtain ⟨l, xs, rfl, rfl, hT, hne, q⟩ := h
  cases rx
  obtain ⟨t, rfl⟩ := ry
  obtain ⟨its, r, ⟨⟨cls, dd, data, sl⟩, ho, hc, n, hd⟩, hs⟩ := I.tuple hT
  simp only at hc hd
  subst hc hd
  have hi : its.toArray.isEmpty = false := by
    cases its with
    | nil => exact absurd (List.eq_nil_of_length_eq_zero r.length) hne
    | cons a b => rfl
  have c0 : (decide ((0 : Int) < -(2 ^ 63)) || decide ((0 : Int) ≥ 2 ^ 63)) = false := by decide
  have c1 : (its.toArray.isEmpty || (0 : Int) == 1) = false := by rw [hi]; rfl
  have c2 : (decide ((0 : Int) ≤ 0) || its.toArray.isEmpty) = true := by rw [hi]; rfl
  refine wpAny_binaryOp_repeat_ref (T := "tuple") (U := "int") (by decide) ⟨_, ho, rfl⟩ (fun s' => typeIs_int s' 0 t) noFill_tuple_mul F.fills_int_mul F.slot_int_rmul repeat_tuple F.slot_int_index.lookup
    (call_meets F.slot_int_rmul (typeIs_int s 0 t) F.entry_int_rmul (F.args_int_rmul_2 _ _) (int_rmul_tuple 0 t l its.toArray n dd sl)
      ⟨ho, rfl, ⟨_, ho, rfl⟩, call_meets F.slot_tuple_mul ⟨_, ho, rfl⟩ F.entry_tuple_mul (F.args_tuple_mul_2 _ _) (tuple_mulZero l its.toArray n dd sl 0 t c0 c1 c2) ⟨ho, ?_⟩⟩)
  refine ⟨.ref s.heap.objs.size, _, I.laid (t' := s.toks) (o := .tup []) (fun b ob q => Heap.get?_push_of_some _ q) (Nat.le_refl _) ?_, rfl, q _ (I.hok.fresh (Nat.le_refl _))⟩
  exact ⟨by show 0 ≤ sizeLine; exact Nat.zero_le _, [], .nil, IsTup.new _ _⟩
end
def rMulAll (K : PySem.W.Frag) : R2 := fun x y H Q => rI CMul (fun i j => .int (i * j)) x y H Q ∨ rRepT K x y H Q ∨ rRepS K x y H Q ∨ rRepZ K x y H Q
theorem small_of {i : Int} (h : small64 i = true) : -(2 ^ 64) < i ∧ i < 2 ^ 64 := by
  unfold small64 at h
  rw [Bool.and_eq_true, decide_eq_true_eq, decide_eq_true_eq] at h
  exact h
theorem opd_mul (K : PySem.W.Frag) : OpD K (rMulAll K) mulD := fun m G H cs dx dy x y Q W rx ry F => by
  unfold mulD at F
  split at F
  · rename_i i j
    obtain ⟨h, F⟩ := F.need
    refine .inl ⟨_, _, rx.int, ry.int, ?_, Post.pure W F _ (.int _)⟩
    rw [Bool.or_eq_true] at h
    exact h.elim (fun h => .inl (small_of h)) fun h => .inr (small_of h)
  · rename_i xs k
    have F0 := F.bind
    unfold repD at F0
    obtain ⟨h, F1⟩ := F0.need
    rw [Bool.and_eq_true, Bool.and_eq_true, decide_eq_true_eq, decide_eq_true_eq, decide_eq_true_eq] at h
    obtain ⟨⟨h1, h2⟩, h3⟩ := h
    have F2 := Post.pure W F1
    obtain ⟨a, vs, rfl, q1, q2, r⟩ := rx.tup W
    by_cases hs : vs = [] ∨ k = 1
    · refine .inr (.inr (.inl ⟨a, k, vs, rfl, ry.int, q1, hs, h1, h2, Post.pure W F2 _ ?_⟩))
      have e : (List.replicate k.toNat xs).flatten = xs := by
        rcases hs with e | e
        · subst e
          cases r
          simp
        · subst e
          simp
      rw [e]
      exact .tup q2 r
    · have hne : vs ≠ [] := fun e => hs (.inl e)
      by_cases hz : k = 0
      · subst hz
        refine .inr (.inr (.inr ⟨a, vs, rfl, ry.int, q1, hne, fun p hp => ?_⟩))
        have F3 := F2 m (upd G p (.tup [])) _ (Ext.new hp W.sub) (W.new hp) (.ref p)
        exact F3 (.tup (SqT.of upd_same) .nil)
      · refine .inr (.inl ⟨a, k, vs, rfl, ry.int, q1, hne, ?_, h2, by rw [← r.length]; exact h3, fun p hp => ?_⟩)
        · have : k ≠ 1 := fun e => hs (.inr e)
          omega
        · exact F2 m (upd G p (.tup (List.replicate k.toNat vs).flatten)) _ (Ext.new hp W.sub) (W.new hp) (.ref p) (.tup (SqT.of upd_same) (Rels.mono (Pre.refl m) (Same.fix (W.noG hp)) (Rels.flatten r _)))
  · exact F.elim
section
variable {S : SCtx} {T : Tab} {a b c e : Expr} {pos p pos2 p2 p1 p3 : Pos} {f fa fb fc : EF} {kk : Nat} {es : List Expr} {fs : AF}
theorem se_mul (ha : SO S T a fa) (hb : SO S T b fb) : SE S T (.BinOp a .Mult b pos) (eOp2 mulD fa fb) := se_op2 (fun X g => op_mul.or (op_repT.or (op_repS.or op_repZ))) opd_mul ha hb
theorem opd_pow (K : PySem.W.Frag) : OpD K (rI CPow fun i j => .int (i ^ j.toNat)) powD := fun m G H cs dx dy x y Q W rx ry F => by
  unfold powD at F
  split at F
  · obtain ⟨h, F⟩ := F.need
    rw [Bool.and_eq_true, Bool.and_eq_true, decide_eq_true_eq, decide_eq_true_eq] at h
    obtain ⟨⟨h1, h2⟩, h3⟩ := h
    have := small_of h3
    exact ⟨_, _, rx.int, ry.int, ⟨h1, by omega, by omega⟩, Post.pure W F _ (.int _)⟩
  · exact F.elim
theorem se_pow (ha : SO S T a fa) (hb : SO S T b fb) : SE S T (.BinOp a .Pow b pos) (eOp2 powD fa fb) := se_op2 (r := fun _ => _) (fun X g => op_pow) opd_pow ha hb
theorem se_neg (ha : SO S T a fa) : SE S T (.UnaryOp .USub a pos) (eOp1 negD fa) := fun X g => (pe_un un_neg (ha X g)).imp fun σ H Q ⟨ρ, cs, m, G, W, E, F⟩ => ⟨ρ, cs, m, G, W, E, F.bind.imp fun d cs1 m1 G1 H1 x1 W1 F1 v rv => by
  cases d with
  | int i => exact ⟨i, rv.int, Post.pure W1 F1 _ (.int _)⟩
  | _ => exact F1.elim⟩
end
end RP
end

section
set_option Elab.async false
set_option linter.all false
set_option maxRecDepth 100000
set_option autoImplicit false
set_option maxHeartbeats 1000000
/-! RpX8: tuples of ranges, t[::-1], t.index, dict(pairs). -/
namespace RP
open PySem PySem.Spec PyProof.Rows L2
theorem M.assoc {α β γ : Type} (x : M α) (f : α → M β) (g : β → M γ) : (x >>= f) >>= g = x >>= fun a => f a >>= g := by
  funext cs
  rw [M.bind_eq, M.bind_eq, M.bind_eq]
  cases x cs <;> rfl
theorem M.pureb {α β : Type} (a : α) (f : α → M β) : (pure a : M α) >>= f = f a := rfl
theorem one_arg_eq {α : Type} (g : List D → M α) (fa : EF) (ρ : Env) : (aCons fa aNil ρ >>= g) = (fa ρ >>= fun x => g [x]) := by
  unfold aCons aNil
  simp only [M.assoc, M.pureb]
theorem two_arg_eq {α : Type} (g : List D → M α) (fa fb : EF) (ρ : Env) : (aCons fa (aCons fb aNil) ρ >>= g) = (fa ρ >>= fun x => fb ρ >>= fun y => g [x, y]) := by
  unfold aCons aNil
  simp only [M.assoc, M.pureb]
theorem rangeV {K : PySem.W.Frag} {m : List Addr} {G : Hp} {a b : Int} : Rels K m G (rangeL a (b - a).toNat) (rgV a b) := by
  have : ∀ (l : List Nat), Rels K m G (l.map fun (i : Nat) => D.int (a + i)) (l.map fun i => V.int (a + (i : Nat))) := by
    intro l
    induction l with
    | nil => exact .nil
    | cons x l ih => exact .cons (.int _) ih
  exact this _
theorem mid_small {i : Int} (h : mid i = true) : -1000000 ≤ i ∧ i ≤ 1000000 := by
  unfold mid at h
  rw [Bool.and_eq_true, decide_eq_true_eq, decide_eq_true_eq] at h
  exact h
theorem rgok {a b : Int} (ha : mid a = true) (hb : mid b = true) : RgOk a b := by
  have h1 := mid_small ha
  have h2 := mid_small hb
  exact ⟨by omega, by omega, by omega, by omega, by omega⟩
section
variable {X : Cx} {a b c : Expr} {ta : TA}
/-- tuple(range(a, b, -1)) -/
theorem pe_tupRg3 {p p2 pos pos2 : Pos} (hc : X.calm = true) (hg : Gl X "tuple") (hm : X.mg "tuple" = none) (hg2 : Gl X "range") (hm2 : X.mg "range" = none) (ha : PA X [a, b, c] ta)
    (hs : starEach [a, b, c] X.env = (false, eval a X.env) :: starEach [b, c] X.env) (hpl : (backTo pos (starEach [b, c] X.env)).any (·.1) = false) :
    PE X (.Call (.Name "tuple" p2) [.Call (.Name "range" p) [a, b, c] [] pos] [] pos2) (fun σ H Q => ta σ H fun vs H1 => ∃ (i j c : Int) (n : Nat), vs = [.int i, .int j, .int c] ∧ RgC i j c n ∧ n ≤ 2 ^ 24 ∧ ∀ q, H1 q = none → Q (.ref q) (upd H1 q (.tup ((List.range n).map fun k => V.int (i + (k : Nat) * c))))) := by
  refine ⟨fun pins s σ H Q I h => ?_⟩
  refine Call_ (ld_blt I hg hm boot_tuple (PyProof.Rows.callWith_type1 (PyProof.Rows.args_cons ?_ rfl) rfl rfl))
  refine Call_ (ld_blt I hg2 hm2 boot_range (PyProof.Rows.callWith_type1 (thn (ha.run pos pins s σ H _ I h) fun us s1 ⟨vs, H1, I1, r1, q1⟩ => ?_) hs hpl))
  obtain ⟨i, j, k, n, e, ⟨c0, c1, c2, c3⟩, hn, q⟩ := q1
  subst e
  cases r1 with
  | cons r rr =>
    cases rr with
    | cons r' rr =>
      cases rr with
      | cons r'' rr =>
        cases rr
        obtain ⟨t, rfl⟩ := r
        obtain ⟨t', rfl⟩ := r'
        obtain ⟨t'', rfl⟩ := r''
        refine call_range_3 c0 ?_ (.inl (PyProof.noPylong_small c1))
        have I2 : Inv X pins σ H1 { s1 with heap := s1.heap.push { cls := .type "range", data := .fields #[.int i t, .int j t', .int k t''] } } := I1.kept (t' := s1.toks) fun b o e => Heap.get?_push_of_some _ e
        refine PyProof.Rows.args_nil ?_
        refine call_tuple_range (s := { s1 with heap := s1.heap.push { cls := .type "range", data := .fields #[.int i t, .int j t', .int k t''] } }) (n := n) (I2.ok.hd hc) (IsRange.new _ _ _ _ _ _ _) c2 c3 hn fun h' tk acc hk hi => ?_
        have I3 : Inv X pins σ H1 { s1 with heap := h', toks := tk } := I2.kept hk
        have hv : Vals ((List.range n).map fun x => V.int (i + (x : Nat) * k)) acc.toList := by
          have e : acc.toList.length = n := by rw [Array.length_toList]; exact hi.1
          rw [← e]
          refine vals_of_get acc.toList _ fun x u hx => ?_
          obtain ⟨t, rfl⟩ := hi.2 x u (by rw [← hx, Array.getElem?_toList])
          exact ⟨t, rfl⟩
        refine ⟨.ref h'.objs.size, upd H1 h'.objs.size (.tup _), I3.laid (t' := tk) (fun c o e => Heap.get?_push_of_some _ e) (Nat.le_refl _) (show ObjOk X.prog X.w _ _ _ (.tup _) from ⟨?_, acc.toList, hv, ?_⟩), rfl, q _ (I3.hok.fresh (Nat.le_refl _))⟩
        · rw [List.length_map, List.length_range, sizeLine_eq]; omega
        · rw [Array.toArray_toList]; exact IsTup.new _ _
end
section
variable {S : SCtx} {T : Tab} {a b c e : Expr} {pos p pos2 p2 p1 p3 : Pos} {f fa fb fc : EF} {kk : Nat} {es : List Expr} {fs : AF}
theorem int_one {K : PySem.W.Frag} {m : List Addr} {G H : Hp} {cs : Cells} {P : D → Cells → List Addr → Hp → Hp → Prop} : True := trivial
theorem tup_new {K : PySem.W.Frag} {m : List Addr} {G H : Hp} {cs : Cells} {ds : List D} {vs : List V} {Q : VK} (W : Wf K m G H cs) (r : Rels K m G ds vs) (F : Post K m G H ((pure (.tup ds) : M D) cs) (fun d _ m' G' H' => ∀ v, Rel K m' G' d v → Q v H')) : ∀ q, H q = none → Q (.ref q) (upd H q (.tup vs)) := fun q hq =>
  F m (upd G q (.tup vs)) _ (Ext.new hq W.sub) (W.new hq) (.ref q) (.tup (SqT.of upd_same) (Rels.mono (Pre.refl m) (Same.fix (W.noG hq)) r))
theorem lst_new {K : PySem.W.Frag} {m m0 : List Addr} {G H G0 H0 : Hp} {cs : Cells} {ds : List D} {vs : List V} {Q : VK} (x : Ext m0 G0 H0 m G H) (W : Wf K m G H cs) (r : Rels K m G ds vs) (F : Post K m G H ((pure ds : M (List D)) cs) (fun ds _ m' G' H' => ∀ a vs, H0 a = none → H' a = some (.lst vs) → G' a = none → a ∉ m' → Rels K m' G' ds vs → Q (.ref a) H')) :
    ∀ q, H q = none → Q (.ref q) (upd H q (.lst vs)) := fun q hq =>
  F m G _ (Ext.own hq) (W.own hq) q vs (none_back x hq) upd_same (W.noG hq) (W.noM hq) r
/-- what range's one argument gives -/
theorem range1_read {K : PySem.W.Frag} {m : List Addr} {G H : Hp} {cs : Cells} {xs : List D} {vs : List V} {P : List D → Cells → List Addr → Hp → Hp → Prop} (W : Wf K m G H cs) (r : Rels K m G xs vs) (F : Post K m G H (range1D xs cs) P) :
    ∃ n, vs = [.int n] ∧ RgOk 0 n ∧ range1D xs cs = .ok (rangeL 0 (n - 0).toNat) cs ∧ P (rangeL 0 (n - 0).toNat) cs m G H := by
  unfold range1D at F ⊢
  split at F
  · obtain ⟨h, F1⟩ := F.need
    cases r with
    | cons r rr =>
      cases rr
      cases r
      refine ⟨_, rfl, rgok (by decide) h, ?_, ?_⟩
      · show need _ _ _ = _
        unfold need
        rw [if_pos h, Int.sub_zero]
        rfl
      · rw [Int.sub_zero]; exact Post.pure W F1
  · exact F.elim
theorem range2_read {K : PySem.W.Frag} {m : List Addr} {G H : Hp} {cs : Cells} {xs : List D} {vs : List V} {P : List D → Cells → List Addr → Hp → Hp → Prop} (W : Wf K m G H cs) (r : Rels K m G xs vs) (F : Post K m G H (range2D xs cs) P) :
    ∃ i j, vs = [.int i, .int j] ∧ RgOk i j ∧ P (rangeL i (j - i).toNat) cs m G H := by
  unfold range2D at F
  split at F
  · obtain ⟨h, F1⟩ := F.need
    rw [Bool.and_eq_true] at h
    cases r with
    | cons r rr =>
      cases rr with
      | cons r' rr =>
        cases rr
        cases r
        cases r'
        exact ⟨_, _, rfl, rgok h.1 h.2, Post.pure W F1⟩
  · exact F.elim
/-- a range as it is built into something -/
structure SRg (S : SCtx) (T : Tab) (e : Expr) (f : AF) : Prop where
  run : ∀ X, Good S T X → ∃ te, PRg X e te ∧ ∀ (σ : St) (H : Hp) (R : Int → Int → Hp → Prop) (ρ : Env) (cs : Cells) (m : List Addr) (G : Hp), Wf X.K m G H cs → EnvR X.K m G H ρ σ →
    Post X.K m G H (f ρ cs) (fun ds _ m' G' H' => ∀ i j, ds = rangeL i (j - i).toNat → RgOk i j → R i j H') → te σ H R
  ns : noStar e = true
theorem srg_1 (ha : SE S T a fa) (hg : glB S "range" = true := by decide +kernel) (hn : noStar a = true := by rfl) : SRg S T (.Call (.Name "range" p) [a] [] pos) (lCall range1D (aCons fa aNil)) := ⟨fun X g => by
  obtain ⟨q1, q2, q3⟩ := glG g hg
  refine ⟨_, prg_1 q1 (g.blt "range" (by decide +kernel)) (ha X g) (star_cons hn [] X.env), fun σ H R ρ cs m G W E F => ?_⟩
  refine ⟨ρ, cs, m, G, W, E, ?_⟩
  have F0 := F
  unfold lCall at F0
  rw [one_arg_eq] at F0
  refine F0.bind.imp fun d cs1 m1 G1 H1 x1 W1 F1 v rv => ?_
  obtain ⟨n, e, ok, _, q⟩ := range1_read W1 (.cons rv .nil) F1
  rw [List.cons.injEq] at e
  exact ⟨n, e.1, q 0 n rfl ok⟩, rfl⟩
theorem srg_2 (ha : SE S T a fa) (hb : SE S T b fb) (hg : glB S "range" = true := by decide +kernel) (hn : noStar a = true := by rfl) (hn2 : noStar b = true := by rfl) : SRg S T (.Call (.Name "range" p) [a, b] [] pos) (lCall range2D (aCons fa (aCons fb aNil))) := ⟨fun X g => by
  obtain ⟨q1, q2, q3⟩ := glG g hg
  refine ⟨_, prg_2 q1 (g.blt "range" (by decide +kernel)) (ha X g) (hb X g) (star_cons hn [b] X.env) (star_cons hn2 [] X.env) (star_any (by rw [List.all_cons, hn2]; rfl) _ _), fun σ H R ρ cs m G W E F => ?_⟩
  have F0 := F
  unfold lCall at F0
  rw [two_arg_eq] at F0
  refine ⟨ρ, cs, m, G, W, E, F0.bind.imp fun d cs1 m1 G1 H1 x1 W1 F1 v rv => ?_⟩
  refine ⟨ρ, cs1, m1, G1, W1, E.ext x1, F1.bind.imp fun d2 cs2 m2 G2 H2 x2 W2 F2 v2 rv2 => ?_⟩
  obtain ⟨i, j, e, ok, q⟩ := range2_read W2 (.cons (Rel.mono x2.pre x2.frz rv) (.cons rv2 .nil)) F2
  rw [List.cons.injEq, List.cons.injEq] at e
  exact ⟨i, j, e.1, e.2.1, q i j rfl ok⟩, rfl⟩
theorem se_tupRange (h : SRg S T e fs) (hg : glB S "tuple" = true := by decide +kernel) : SE S T (.Call (.Name "tuple" p) [e] [] pos) (eTup fs) := fun X g => by
  obtain ⟨q1, q2, q3⟩ := glG g hg
  obtain ⟨te, hp, hr⟩ := h.run X g
  refine (pe_tupRg g.calm q1 (g.blt "tuple" (by decide +kernel)) hp (star_cons h.ns [] X.env)).imp fun σ H Q ⟨ρ, cs, m, G, W, E, F⟩ => ?_
  refine hr σ H _ ρ cs m G W E (F.bind.imp fun ds cs1 m1 G1 H1 x1 W1 F1 i j e ok => ⟨ok, ?_⟩)
  subst e
  exact tup_new W1 rangeV F1
theorem sfr_listRange (h : SRg S T e fs) (hg : glB S "list" = true := by decide +kernel) : SFr S T (.Call (.Name "list" p) [e] [] pos) fs := fun X g => by
  obtain ⟨q1, q2, q3⟩ := glG g hg
  obtain ⟨te, hp, hr⟩ := h.run X g
  refine (pe_listRg g.calm q1 (g.blt "list" (by decide +kernel)) hp (star_cons h.ns [] X.env)).imp fun σ H Q ⟨ρ, cs, m, G, W, E, F⟩ => ?_
  refine hr σ H _ ρ cs m G W E (F.impA fun ds cs1 m1 G1 H1 eq x1 W1 F1 i j e ok => ⟨ok, fun q hq => ?_⟩)
  subst e
  exact F1 m1 G1 _ (x1.trans (Ext.own hq)) (W1.own hq) q _ (none_back x1 hq) upd_same (W1.noG hq) (W1.noM hq) rangeV
theorem rangeDV {K : PySem.W.Frag} {m : List Addr} {G : Hp} {a : Int} {n : Nat} : Rels K m G (rangeD a n) ((List.range n).map fun k => V.int (a + (k : Nat) * (-1))) := by
  have : ∀ (l : List Nat), Rels K m G (l.map fun (k : Nat) => D.int (a + k * (-1))) (l.map fun k => V.int (a + (k : Nat) * (-1))) := by
    intro l
    induction l with
    | nil => exact .nil
    | cons x l ih => exact .cons (.int _) ih
  exact this _
theorem se_tupRange3 (ha : SE S T a fa) (hb : SE S T b fb) (hc : SE S T c fc) (hg : glB S "range" = true := by decide +kernel) (hgt : glB S "tuple" = true := by decide +kernel) (hn : noStar a = true := by rfl) (hn2 : noStar b = true := by rfl) (hn3 : noStar c = true := by rfl) :
    SE S T (.Call (.Name "tuple" p2) [.Call (.Name "range" p) [a, b, c] [] pos] [] pos2) (eTup (lCall range3D (aCons fa (aCons fb (aCons fc aNil))))) := fun X g => by
  obtain ⟨q1, q2, q3⟩ := glG g hg
  obtain ⟨t1, t2, t3⟩ := glG g hgt
  refine (pe_tupRg3 g.calm t1 (g.blt "tuple" (by decide +kernel)) q1 (g.blt "range" (by decide +kernel)) ((sa_cons ha (sa_cons hb (sa_cons hc sa_nil hn3) hn2) hn).run X g) (star_cons hn [b, c] X.env) (star_any (by rw [List.all_cons, hn2, List.all_cons, hn3]; rfl) _ _)).imp fun σ H Q ⟨ρ, cs, m, G, W, E, F⟩ => ?_
  have F0 := F
  unfold eTup lCall at F0
  rw [M.assoc] at F0
  refine ⟨ρ, cs, m, G, W, E, F0.bind.imp fun xs cs1 m1 G1 H1 x1 W1 F1 vs rvs => ?_⟩
  have F2 := F1.bind
  unfold range3D at F2
  split at F2
  · rename_i i j c
    obtain ⟨hj, F3⟩ := F2.need
    cases rvs with
    | cons rv rr => cases rr with
    | cons ru rr => cases rr with
    | cons rw' rr =>
    cases rr
    cases rv
    cases ru
    cases rw'
    rw [Bool.and_eq_true, Bool.and_eq_true, decide_eq_true_eq] at hj
    obtain ⟨⟨k1, k2⟩, rfl⟩ := hj
    have h1 := mid_small k1
    have h2 := mid_small k2
    have F4 := Post.pure W1 F3
    exact ⟨i, j, -1, _, rfl, RgC.neg (by omega) (by omega) (by omega) (by omega), by omega, tup_new W1 rangeDV F4⟩
  · exact F2.elim
end
end RP
end

section
set_option Elab.async false
set_option linter.all false
set_option maxRecDepth 100000
set_option autoImplicit false
set_option maxHeartbeats 1000000
/-! RpX9: t[::-1], t.index, dict(pairs). -/
namespace RP
open PySem PySem.Spec PyProof.Rows L2
section
variable {prog : Program} {w : World} {A : Around} {E : Value → Shared → Prop} {s : Shared}
theorem places_rev (n : Nat) : Builtin.Slice.slicePlaces ((n : Int) - 1) (-1) (-1) = n := by
  unfold Builtin.Slice.slicePlaces
  rw [if_neg (by decide)]
  by_cases h : (n : Int) - 1 > -1
  · rw [if_pos h]
    have : ((n : Int) - 1 - -1 - 1) / (- -1) = (n : Int) - 1 := by
      rw [show (- -1 : Int) = 1 from rfl, Int.ediv_one]
      omega
    rw [this]
    omega
  · rw [if_neg h]
    omega
theorem sliceApplied_rev {sl : Addr} {vl vu vs : Value} {n : Nat} {Q : Int × Int × Nat → Shared → Prop} (hs : s.heap.IsSliceOf sl vl vu vs) (pl : IsPart vl none) (pu : IsPart vu none) (ps : IsPart vs (some (-1)))
    (h : Q ((n : Int) - 1, -1, n) s) : wpAny (model prog w) A (Builtin.Slice.sliceApplied (.ref sl) (pure (n : Int))) Q E s := by
  obtain ⟨os, hos, hcs, hds⟩ := id hs
  unfold Builtin.Slice.sliceApplied Builtin.Slice.sliceFields
  refine wpAny_bind (wpAny_bind (wpAny_field hos hds (x := vl) rfl (wpAny_bind (wpAny_field hos hds (x := vu) rfl (wpAny_bind (wpAny_field hos hds (x := vs) rfl (wpAny_pure ?_)))))))
  refine wpAny_bind (HT.slicePart_ ps ?_)
  show wpAny _ _ (if ((-1 : Int) == 0) = true then _ else _) _ _ s
  rw [if_neg (by decide)]
  refine wpAny_bind (HT.slicePart_ pl (wpAny_bind (HT.slicePart_ pu (wpAny_bind (wpAny_pure ?_)))))
  show wpAny _ _ (pure ((n : Int) - 1, (-1 : Int), Builtin.Slice.slicePlaces ((n : Int) - 1) (-1) (-1))) _ _ s
  rw [places_rev]
  exact wpAny_pure h
theorem pick_rev (xs : Array Value) : ((List.range xs.size).filterMap fun (k : Nat) => xs[(((xs.size : Nat) : Int) - 1 + (k : Int) * (-1)).toNat]?).toArray = xs.toList.reverse.toArray := by
  congr 1
  apply List.ext_getElem?
  have key : ∀ (l : List Value) , (List.range l.length).filterMap (fun (k : Nat) => l[((l.length : Int) - 1 + (k : Int) * (-1)).toNat]?) = l.reverse := by
    intro l
    have e1 : (List.range l.length).filterMap (fun (k : Nat) => l[((l.length : Int) - 1 + (k : Int) * (-1)).toNat]?) = (List.range l.length).filterMap (fun k => l.reverse[k]?) := by
      have : ∀ (r : List Nat) (f g : Nat → Option Value), (∀ k ∈ r, f k = g k) → r.filterMap f = r.filterMap g := by
        intro r f g
        induction r with
        | nil => intro _; rfl
        | cons x r ih =>
          intro h
          rw [List.filterMap_cons, List.filterMap_cons, h x List.mem_cons_self, ih fun k hk => h k (List.mem_cons_of_mem _ hk)]
      apply this
      intro k hk
      have hk' := List.mem_range.mp hk
      rw [List.getElem?_reverse hk']
      congr 1
      omega
    rw [e1]
    have e2 : ∀ (l : List Value) (n : Nat), n = l.length → (List.range n).filterMap (fun k => l[k]?) = l := by
      intro l
      induction l with
      | nil => intro n h; subst h; rfl
      | cons x l ih =>
        intro n h
        subst h
        rw [List.length_cons, List.range_succ_eq_map, List.filterMap_cons]
        simp only [List.getElem?_cons_zero, List.filterMap_map]
        congr 1
        exact ih _ rfl
    exact e2 _ _ (List.length_reverse).symm
  intro i
  rw [← key xs.toList]
  rw [Array.length_toList]
  simp only [Array.getElem?_toList]
theorem getItem_tuple_rev {t sl : Addr} {items : Array Value} {vl vu vs : Value} {Q : Value → Shared → Prop} (ht : IsTup s.heap t items) (hs : s.heap.IsSliceOf sl vl vu vs) (pl : IsPart vl none) (pu : IsPart vu none) (ps : IsPart vs (some (-1)))
    (h : Q (.ref s.heap.objs.size) { s with heap := s.heap.push { cls := .type "tuple", data := .seq items.toList.reverse.toArray } })
    (hsz : items.size ≤ sizeLine) : wpAny (model prog w) A (getItem (.ref t) (.ref sl)) Q E s := by
  have htake : sizeOk (.seq items.toList.reverse.toArray) := by
    show items.toList.reverse.toArray.size ≤ sizeLine
    rw [List.size_toArray, List.length_reverse, Array.length_toList]
    exact hsz
  obtain ⟨os, hos, hcs, hds⟩ := id hs
  have hTs : s.TypeIs (.ref sl) "slice" := ⟨os, hos, hcs⟩
  unfold getItem
  try with_reducible refine wpAny_holding ?_
  first | refine wpAny_bind (wpAny_pure ?_) | skip
  refine wpAny_bind (wpAny_sequenceKey ht.typeIs (by decide) ?_)
  refine wpAny_bind (wpAny_callSpecial?_slot (name := Str.ofString "__getitem__") ht.typeIs PyProof.Rows.slot_tuple_getitem
    (wpAny_call_entry PyProof.Rows.slot_tuple_getitem ht.typeIs entry_tuple_getitem ?_ (args_tuple_getitem _ _)))
  show wpAny _ _ (Builtin.Tuple.tupleItemsOf (.ref t) >>= _) _ _ s
  refine wpAny_bind (tupleItemsOf_ ht ?_)
  refine wpAny_bind (wpAny_typeOf hTs ?_)
  rw [if_pos (by decide)]
  refine wpAny_bind (sliceApplied_rev hs pl pu ps ?_)
  have hno : ¬ ((((items.size : Nat) : Int) - 1 == 0 && (-1 : Int) == 1 && items.size == items.size) = true) := by
    intro q
    rw [Bool.and_eq_true, Bool.and_eq_true] at q
    exact absurd q.1.2 (by decide)
  show wpAny _ _ (if (((items.size : Nat) : Int) - 1 == 0 && (-1 : Int) == 1 && items.size == items.size) = true then _ else _) _ _ s
  rw [if_neg hno, pick_rev]
  first
    | exact wpAny_bind (m := Builtin.Tuple.tupleExact _) (wpAny_newObj_type (wpAny_pure ⟨_, rfl, wpAny_pure h⟩) htake)
    | exact wpAny_bind (m := Builtin.Tuple.tupleExact _) (wpAny_newObj_type (wpAny_bind (wpAny_pure (wpAny_pure ⟨_, rfl, wpAny_pure h⟩))) htake)
    | exact wpAny_bind (wpAny_bind (m := Builtin.Tuple.tupleExact _) (wpAny_newObj_type (wpAny_pure (wpAny_pure ⟨_, rfl, wpAny_pure h⟩)) htake))
    | exact wpAny_bind (wpAny_bind (m := Builtin.Tuple.tupleExact _) (wpAny_newObj_type (wpAny_pure ⟨_, rfl, wpAny_pure h⟩) htake))
end
def tRevT (K : PySem.W.Frag) (te : TE) : TE := fun σ H Q => te σ H fun x H1 => ∃ a xs, x = .ref a ∧ SqT K H1 a xs ∧ ∀ p, H1 p = none → Q (.ref p) (upd H1 p (.tup xs.reverse))
theorem pe_revT {X : Cx} {te : TE} {e : Expr} {k : Nat} {p1 p2 p3 pos : Pos} (he : PE X e te) : PE X (.Subscript e (.Slice none none (some (.UnaryOp .USub (.Constant (.int 1) k p1) p2)) p3) pos) (tRevT X.K te) := by
  refine ⟨fun pins s σ H Q I h => ?_⟩
  refine Subscript_ (thn (he.run pins s σ H _ I h) fun v s1 ⟨x, H1, I1, r1, q1⟩ => ?_)
  obtain ⟨a, xs, ex, hx, q⟩ := q1
  subst ex
  cases r1
  have hst : PO X (some (.UnaryOp .USub (.Constant (.int 1) k p1) p2)) (tPart (tUn (rU fun i => .int (-i)) (tC (.int 1)))) := po_some (pe_un un_neg pe_int)
  refine wpAny_Slice (thn (po_none.run pins s1 σ H1 (fun o H2 => o = none ∧ H2 = H1) I1 ⟨rfl, rfl⟩) fun vl s2 ⟨l, H2, I2, pl, el, e2⟩ => ?_)
  subst el e2
  refine thn (po_none.run pins s2 σ H2 (fun o H3 => o = none ∧ H3 = H2) I2 ⟨rfl, rfl⟩) fun vu s3 ⟨u, H3, I3, pu, eu, e3⟩ => ?_
  subst eu e3
  refine thn (hst.run pins s3 σ H3 (fun o H4 => o = some (-1) ∧ H4 = H3) I3 ⟨1, rfl, -1, rfl, rfl, rfl⟩) fun vs s4 ⟨o, H4, I4, ps, eo, e4⟩ => ?_
  subst eo e4
  have I5 : Inv X pins σ H4 { s4 with heap := s4.heap.push { cls := .type "slice", data := .fields #[vl, vu, vs] } } := I4.kept (t' := s4.toks) fun b ob q => Heap.get?_push_of_some _ q
  obtain ⟨its, r, ht, hz⟩ := I5.tuple hx
  have hlen := r.length
  show wpAny (model X.prog X.w) X.A (subscriptTail e (.Slice none none (some (.UnaryOp .USub (.Constant (.int 1) k p1) p2)) p3) (.ref a) (.ref s4.heap.objs.size)) (EP X pins σ Q) X.xe { s4 with heap := s4.heap.push { cls := .type "slice", data := .fields #[vl, vu, vs] } }
  refine tail_any (ops := [.ref a, .ref s4.heap.objs.size]) ht.typeIs (PyProof.Rows.slot_tuple_getitem.lookup) ?_ (by with_unfolding_all rfl)
  refine getItem_tuple_rev ht (Heap.IsSliceOf.new _ vl vu vs) pl pu ps ?_ (by rw [List.size_toArray]; omega)
  refine ⟨.ref _, _, I5.laid (t' := s4.toks) (o := .tup xs.reverse) (fun b ob q => Heap.get?_push_of_some _ q) (Nat.le_refl _) ?_, rfl, q _ (I5.hok.fresh (Nat.le_refl _))⟩
  exact ⟨by rw [List.length_reverse]; exact hz, its.reverse, r.reverse, IsTup.new _ _⟩
section
variable {S : SCtx} {T : Tab} {a b c e : Expr} {pos p pos2 p2 p1 p3 : Pos} {f fa fb fc : EF} {kk : Nat} {es : List Expr} {fs : AF}
theorem se_rev (ha : SO S T a fa) : SE S T (.Subscript a (.Slice none none (some (.UnaryOp .USub (.Constant (.int 1) kk p1) p2)) p3) pos) (eOp1 revD fa) := fun X g => (pe_revT (ha X g)).imp fun σ H Q ⟨ρ, cs, m, G, W, E, F⟩ => ⟨ρ, cs, m, G, W, E, F.bind.imp fun d cs1 m1 G1 H1 x1 W1 F1 v rv => by
  cases d with
  | tup ds =>
    obtain ⟨a', vs, rfl, h1, h2, r⟩ := rv.tup W1
    exact ⟨a', vs, rfl, h1, tup_new W1 (Rels.reverse r) F1⟩
  | _ => exact F1.elim⟩
/-- t.index(text) -/
def idxD : D → D → M D
  | .tup ys, .str z => allStr ys >>= fun ss => optM (ss.findIdx? (· == z)) >>= fun j => pure (.int (j : Nat))
  | _, _ => M.bad
theorem findIdx_spec {z : Str} : ∀ {ss : List Str} {j : Nat}, ss.findIdx? (· == z) = some j → ss[j]? = some z ∧ ∀ m, m < j → ss[m]? ≠ some z
  | [], j, h => by cases h
  | x :: ss, j, h => by
    rw [List.findIdx?_cons] at h
    by_cases e : (x == z) = true
    · rw [if_pos e] at h
      cases h
      exact ⟨by rw [List.getElem?_cons_zero, eq_of_beq e], fun m hm => absurd hm (Nat.not_lt_zero _)⟩
    · rw [if_neg e] at h
      cases h2 : ss.findIdx? (· == z) with
      | none => rw [h2] at h; cases h
      | some i =>
        rw [h2] at h
        cases h
        obtain ⟨k1, k2⟩ := findIdx_spec h2
        refine ⟨by rw [List.getElem?_cons_succ]; exact k1, fun m hm => ?_⟩
        cases m with
        | zero =>
          rw [List.getElem?_cons_zero]
          intro z2
          cases z2
          exact e (beq_self_eq_true _)
        | succ m =>
          rw [List.getElem?_cons_succ]
          exact k2 m (Nat.lt_of_succ_lt_succ hm)
theorem se_gidx (i : Nat) {x : Str} {ds : List D} (h : T.gl[i]? = some (x, .tup ds) := by rfl) (hg : glB S x = true := by decide +kernel) (hb : SO S T b fb) (hl : (p1.endLine == pos.line) = true := by rfl) (hn : noStar b = true := by rfl) :
    SE S T (.Call (.Attribute (.Name x p) "index" p1) [b] [] pos) (eOp2 idxD (eLit (.tup ds)) fb) := fun X g => by
  obtain ⟨v, u, h1, h2, h3, h4⟩ := g.gl i x _ h
  obtain ⟨q1, q2, q3⟩ := glG g hg
  refine (pe_bm PySem.F.plainAttrs_tuple PySem.F.slot_tuple_index PySem.F.type_tuple_index mt_tup_index (pe_glob q1 h1 h2 q2) (pa_cons (hb X g) pa_nil (star_cons hn [] X.env)) rfl (by rw [star_cons hn]; rfl) hl (star_cons hn [] X.env) rfl).imp fun σ H Q ⟨ρ, cs, m, G, W, E, F⟩ => ?_
  have F1 : Post X.K m G H ((fb ρ >>= fun y => idxD (.tup ds) y) cs) _ := F
  have hr := h3 m G
  obtain ⟨a', vs, rfl⟩ : ∃ a' , ∃ vs : List V, v = .ref a' := by
    cases hr
    exact ⟨_, [], rfl⟩
  obtain ⟨o, k1, k2, k3⟩ := h4 a' ds rfl rfl
  refine ⟨.inr (.inl ⟨rfl, o, k1, k2, k3⟩), ⟨ρ, cs, m, G, W, E, F1.bind.imp fun y cs2 m2 G2 H2 x2 W2 F2 u' ru => ?_⟩⟩
  cases y with
  | str z =>
    have F3 := F2.bind
    cases h3 m2 G2 with
    | tup ht r =>
      obtain ⟨ss, rfl, rfl, hok, F4⟩ := allStr_read W2 r F3
      obtain ⟨j, hj, F5⟩ := F4.bind.optM W2
      obtain ⟨k1, k2⟩ := findIdx_spec hj
      exact ⟨a', ss, z, j, rfl, by rw [ru.str.1], Same.seqT W2.sub ht, k1, k2, Post.pure W2 F5 _ (.int _)⟩
  | _ => exact F2.elim
end
end RP
end

section
set_option Elab.async false
set_option linter.all false
set_option maxRecDepth 100000
set_option autoImplicit false
set_option maxHeartbeats 1000000
/-! RpX10: dict(pairs). -/
namespace RP
open PySem PySem.Spec PyProof.Rows L2
def isKey : D → Bool
  | .str _ => true
  | .int _ => true
  | _ => false
/-- d[k] = v, by places -/
def putD2 (ks vs : List D) (k v : D) : List D × List D :=
  if (ks.any fun x => D.eqv x k) = true then (ks, (ks.zip vs).map fun p => if D.eqv p.1 k = true then v else p.2) else (ks ++ [k], vs ++ [v])
def pairsOf : List D → M (List (D × D))
  | [] => pure []
  | .tup [k, v] :: r => need (isKey k) (pairsOf r >>= fun ps => pure ((k, v) :: ps))
  | _ => M.bad
def mergeD (ps : List (D × D)) : List D × List D := ps.foldl (fun acc p => putD2 acc.1 acc.2 p.1 p.2) ([], [])
def dictD : List D → M D
  | [.lst ps] => pairsOf ps >>= fun kvs => pure (.dct (mergeD kvs).1 (mergeD kvs).2)
  | _ => M.bad
section
variable {K : PySem.W.Frag} {m : List Addr} {G H : Hp} {cs : Cells}
theorem key_of_rel {d : D} {x : V} (hk : isKey d = true) (r : Rel K m G d x) : ∃ k : Key, x = kV k := by
  cases d with
  | str s => cases r; exact ⟨.inr s, rfl⟩
  | int i => cases r; exact ⟨.inl i, rfl⟩
  | _ => cases hk
theorem key_eq {d : D} {k : Key} (hk : isKey d = true) (r : Rel K m G d (kV k)) (x : D) (kk : Key) (rx : Rel K m G x (kV kk)) : D.eqv x d = decide (kk = k) := by
  cases d with
  | str s =>
    have : k = .inr s := by
      cases k with
      | inl i => cases r
      | inr y => cases r; rfl
    subst this
    exact key_str x kk rx
  | int i =>
    have : k = .inl i := by
      cases k with
      | inl i => cases r; rfl
      | inr y => cases r
    subst this
    exact key_int x kk rx
  | _ => cases hk
theorem put_rel {k : Key} {d e : D} {v : V} (hk : isKey d = true) (rd : Rel K m G d (kV k)) (rv : Rel K m G e v) {kvs : List (Key × V)} {ks ds : List D} (r1 : Rels K m G ks (kvs.map fun kv => kV kv.1)) (r2 : Rels K m G ds (kvs.map fun kv => kv.2)) :
    Rels K m G (putD2 ks ds d e).1 ((putK kvs k v).map fun kv => kV kv.1) ∧ Rels K m G (putD2 ks ds d e).2 ((putK kvs k v).map fun kv => kv.2) := by
  have ha : ∀ {kvs : List (Key × V)} {ks : List D}, Rels K m G ks (kvs.map fun kv => kV kv.1) → (ks.any fun x => D.eqv x d) = (kvs.any fun kv => decide (kv.1 = k)) := by
    intro kvs
    induction kvs with
    | nil => intro ks r; cases r; rfl
    | cons p kvs ih =>
      intro ks r
      cases r with
      | cons h r => rw [List.any_cons, List.any_cons, key_eq hk rd _ _ h, ih r]
  unfold putD2 putK
  rw [ha r1]
  by_cases hb : (kvs.any fun kv => decide (kv.1 = k)) = true
  · rw [if_pos hb, if_pos hb]
    clear hb
    revert ks ds
    induction kvs with
    | nil => intro ks ds r1 r2; cases r1; cases r2; exact ⟨.nil, .nil⟩
    | cons p kvs ih =>
      intro ks ds r1 r2
      cases r1 with
      | cons h1 r1 =>
        cases r2 with
        | cons h2 r2 =>
          obtain ⟨q1, q2⟩ := ih r1 r2
          have hq := key_eq hk rd _ _ h1
          refine ⟨?_, ?_⟩
          · refine .cons ?_ q1
            by_cases e : p.1 = k
            · dsimp only; rw [if_pos e]; exact h1
            · dsimp only; rw [if_neg e]; exact h1
          · refine .cons ?_ q2
            by_cases e : p.1 = k
            · rw [decide_eq_true e] at hq
              dsimp only
              rw [if_pos e, if_pos hq]; exact rv
            · rw [decide_eq_false e] at hq
              dsimp only
              rw [if_neg e, if_neg (by rw [hq]; exact Bool.false_ne_true)]; exact h2
  · rw [if_neg hb, if_neg hb]
    rw [List.map_append, List.map_append]
    exact ⟨Rels.append r1 (.cons rd .nil), Rels.append r2 (.cons rv .nil)⟩
/-- pairs as they stand -/
def PairsR (K : PySem.W.Frag) (m : List Addr) (G : Hp) : List (D × D) → List (Key × V) → Prop
  | [], [] => True
  | p :: ps, q :: qs => isKey p.1 = true ∧ Rel K m G p.1 (kV q.1) ∧ Rel K m G p.2 q.2 ∧ PairsR K m G ps qs
  | _, _ => False
theorem merge_rel : ∀ {ps : List (D × D)} {qs : List (Key × V)} {acc : List D × List D} {kvs : List (Key × V)}, PairsR K m G ps qs → Rels K m G acc.1 (kvs.map fun kv => kV kv.1) → Rels K m G acc.2 (kvs.map fun kv => kv.2) →
    Rels K m G (ps.foldl (fun acc p => putD2 acc.1 acc.2 p.1 p.2) acc).1 ((mergeK kvs qs).map fun kv => kV kv.1) ∧ Rels K m G (ps.foldl (fun acc p => putD2 acc.1 acc.2 p.1 p.2) acc).2 ((mergeK kvs qs).map fun kv => kv.2)
  | [], [], _, _, _, r1, r2 => ⟨r1, r2⟩
  | [], _ :: _, _, _, h, _, _ => h.elim
  | _ :: _, [], _, _, h, _, _ => h.elim
  | p :: ps, q :: qs, acc, kvs, h, r1, r2 => by
    obtain ⟨h1, h2, h3, h4⟩ := h
    obtain ⟨k1, k2⟩ := put_rel h1 h2 h3 r1 r2
    exact merge_rel (ps := ps) (qs := qs) h4 k1 k2
theorem pairs_read (W : Wf K m G H cs) : ∀ {ds : List D} {vs : List V} {P : List (D × D) → Cells → List Addr → Hp → Hp → Prop}, Rels K m G ds vs → Post K m G H (pairsOf ds cs) P →
    ∃ (as : List Addr) (kvs : List (Key × V)) (ps : List (D × D)), vs = as.map V.ref ∧ Paired (fun p kv => SqT K H p [kV kv.1, kv.2]) as kvs ∧ PairsR K m G ps kvs ∧ P ps cs m G H
  | [], _, P, .nil, F => ⟨[], [], [], rfl, .nil, trivial, Post.pure W F⟩
  | d :: ds, _, P, .cons r rs, F => by
    have hd : ∃ k v, d = .tup [k, v] := by
      cases d with
      | tup xs =>
        rcases xs with _ | ⟨k, _ | ⟨v, _ | ⟨z, r⟩⟩⟩
        · exact F.elim
        · exact F.elim
        · exact ⟨k, v, rfl⟩
        · exact F.elim
      | _ => exact F.elim
    obtain ⟨k, v, rfl⟩ := hd
    have F : Post K m G H (need (isKey k) (pairsOf ds >>= fun ps => pure ((k, v) :: ps)) cs) P := F
    obtain ⟨hk, F1⟩ := F.need
    obtain ⟨as, kvs, ps, rfl, h2, h3, h4⟩ := pairs_read W rs F1.bind
    cases r with
    | @tup a vs0 _ ht rr =>
      cases rr with
      | cons k1 rr => cases rr with
      | cons k2 rr =>
      cases rr
      obtain ⟨kk, rfl⟩ := key_of_rel hk k1
      exact ⟨a :: as, (kk, _) :: kvs, (k, v) :: ps, rfl, .cons (Same.seqT W.sub ht) h2, ⟨hk, k1, k2, h3⟩, Post.pure W h4⟩
end
section
variable {S : SCtx} {T : Tab} {a b c e : Expr} {pos p pos2 p2 p1 p3 : Pos} {f fa fb fc : EF}
theorem se_dict (h : SO S T a fa) (hg : glB S "dict" = true := by decide +kernel) (hn : noStar a = true := by rfl) : SE S T (.Call (.Name "dict" p) [a] [] pos) (eCall dictD (aCons fa aNil)) := fun X g => by
  obtain ⟨q1, q2, q3⟩ := glG g hg
  refine (pe_callTy (call_dictP g.calm) q1 (g.blt "dict" (by decide +kernel)) (by decide +kernel) ((sb_cons h sb_nil hn).run X g) q3 q2 (star_cons hn [] X.env) rfl).imp fun σ H Q ⟨ρ, cs, m, G, W, E, F⟩ => ?_
  refine ⟨ρ, cs, m, G, W, E, F.bind.imp fun xs cs1 m1 G1 H1 x1 W1 F1 vs rvs => ?_⟩
  unfold dictD at F1
  split at F1
  · cases rvs with
    | cons r rr =>
      cases rr
      obtain ⟨a', ws, rfl, h1, r2⟩ := r.lst W1
      obtain ⟨as, kvs, ps, rfl, h2, h3, F2⟩ := pairs_read W1 r2 F1.bind
      obtain ⟨m1', m2'⟩ := merge_rel (acc := ([], [])) (kvs := []) h3 .nil .nil
      refine ⟨a', as, kvs, rfl, SqL.of h1, h2, fun q hq => ?_⟩
      have sm := Same.fix (o := .dK (mergeK [] kvs)) (W1.noG hq)
      exact F2 m1 (upd G1 q (.dK (mergeK [] kvs))) _ (Ext.new hq W1.sub) (W1.new hq) (.ref q) (.dct upd_same (Rels.mono (Pre.refl m1) sm m1') (Rels.mono (Pre.refl m1) sm m2'))
  · exact F1.elim
end
end RP
end

section
set_option Elab.async false
set_option linter.all false
set_option maxRecDepth 100000
set_option autoImplicit false
/-! RpP: how plain functions are computed. -/
namespace RP
open PySem (Str)

@[simp] theorem M.pureb' {α β : Type} (a : α) (f : α → M β) : (pure a : M α) >>= f = f a := (rfl)
@[simp] theorem M.assoc' {α β γ : Type} (x : M α) (f : α → M β) (g : β → M γ) : (x >>= f) >>= g = x >>= fun a => f a >>= g := M.assoc x f g
@[simp] theorem M.badb {α β : Type} (f : α → M β) : (M.bad : M α) >>= f = M.bad := (rfl)
theorem M.ite_bind {α β : Type} {p : Prop} [Decidable p] (x y : M α) (f : α → M β) : (if p then x else y) >>= f = if p then x >>= f else y >>= f := by
  by_cases h : p
  · rw [if_pos h, if_pos h]
  · rw [if_neg h, if_neg h]
@[simp] theorem ite_bl {p : Prop} [Decidable p] (q : Bool) : (if p then (pure (.bl q) : M D) else pure (.bl false)) = pure (.bl (decide p && q)) := by
  by_cases h : p <;> simp [h]
@[simp] theorem ite_bl' {p : Prop} [Decidable p] (q : Bool) : (if p then (pure (.bl true) : M D) else pure (.bl q)) = pure (.bl (decide p || q)) := by
  by_cases h : p <;> simp [h]
@[simp] theorem ite_b {p : Prop} [Decidable p] (q : Bool) : (if p then (pure q : M Bool) else pure false) = pure (decide p && q) := by
  by_cases h : p <;> simp [h]
@[simp] theorem ite_b' {p : Prop} [Decidable p] (q : Bool) : (if p then (pure true : M Bool) else pure q) = pure (decide p || q) := by
  by_cases h : p <;> simp [h]
@[simp] theorem eLit_ev (d : D) (ρ : Env) : eLit d ρ = pure d := (rfl)
@[simp] theorem eVar_0 (d : D) (ρ : Env) : eVar 0 (.va d :: ρ) = pure d := (rfl)
@[simp] theorem eVar_s (i : Nat) (s : Sl) (ρ : Env) : eVar (i + 1) (s :: ρ) = eVar i ρ := (rfl)
@[simp] theorem eOpd_0 (d : D) (ρ : Env) : eOpd 0 (.va d :: ρ) = pure d := (rfl)
@[simp] theorem eOpd_o (xs : List D) (ρ : Env) : eOpd 0 (.own xs :: ρ) = pure (.lst xs) := (rfl)
@[simp] theorem eOpd_s (i : Nat) (s : Sl) (ρ : Env) : eOpd (i + 1) (s :: ρ) = eOpd i ρ := (rfl)
@[simp] theorem eOp1_ev (g : D → M D) (a : EF) (ρ : Env) : eOp1 g a ρ = a ρ >>= g := (rfl)
@[simp] theorem eOp2_ev (g : D → D → M D) (a b : EF) (ρ : Env) : eOp2 g a b ρ = a ρ >>= fun x => b ρ >>= fun y => g x y := (rfl)
@[simp] theorem aNil_ev (ρ : Env) : aNil ρ = pure [] := (rfl)
@[simp] theorem aCons_ev (a : EF) (r : AF) (ρ : Env) : aCons a r ρ = a ρ >>= fun x => r ρ >>= fun xs => pure (x :: xs) := (rfl)
@[simp] theorem eTup_ev (as : AF) (ρ : Env) : eTup as ρ = as ρ >>= fun xs => pure (.tup xs) := (rfl)
@[simp] theorem eLst_ev (as : AF) (ρ : Env) : eLst as ρ = as ρ >>= fun xs => pure (.lst xs) := (rfl)
@[simp] theorem eCall_ev (c : List D → M D) (as : AF) (ρ : Env) : eCall c as ρ = as ρ >>= c := (rfl)
@[simp] theorem lCall_ev (c : List D → M (List D)) (as : AF) (ρ : Env) : lCall c as ρ = as ρ >>= c := (rfl)
@[simp] theorem eIf_ev (t : TF) (a b : EF) (ρ : Env) : eIf t a b ρ = t ρ >>= fun c => if c = true then a ρ else b ρ := (rfl)
@[simp] theorem eAndV_ev (a b : EF) (ρ : Env) : eAndV a b ρ = a ρ >>= fun x => asBl x >>= fun c => if c = true then b ρ else pure (.bl false) := (rfl)
@[simp] theorem eOrV_ev (a b : EF) (ρ : Env) : eOrV a b ρ = a ρ >>= fun x => asBl x >>= fun c => if c = true then pure (.bl true) else b ρ := (rfl)
@[simp] theorem eNotV_ev (a : EF) (ρ : Env) : eNotV a ρ = a ρ >>= fun x => asBl x >>= fun c => pure (.bl (!c)) := (rfl)
@[simp] theorem eChain_ev (g g' : D → D → M D) (a b c : EF) (ρ : Env) : eChain g g' a b c ρ = a ρ >>= fun x => b ρ >>= fun y => g x y >>= fun z => asBl z >>= fun k => if k = true then c ρ >>= fun w => g' y w else pure (.bl false) := (rfl)
@[simp] theorem tVal_ev (a : EF) (ρ : Env) : tVal a ρ = a ρ >>= asBl := (rfl)
@[simp] theorem tAnd_ev (a b : TF) (ρ : Env) : tAnd a b ρ = a ρ >>= fun c => if c = true then b ρ else pure false := (rfl)
@[simp] theorem tOr_ev (a b : TF) (ρ : Env) : tOr a b ρ = a ρ >>= fun c => if c = true then pure true else b ρ := (rfl)
@[simp] theorem tNot_ev (a : TF) (ρ : Env) : tNot a ρ = a ρ >>= fun c => pure (!c) := (rfl)
@[simp] theorem tYes_ev (ρ : Env) : tYes ρ = pure true := (rfl)
@[simp] theorem xVal_ev (a : EF) (ρ : Env) : xVal a ρ = a ρ >>= fun d => pure (.va d) := (rfl)
@[simp] theorem xOwn_ev (a : AF) (ρ : Env) : xOwn a ρ = a ρ >>= fun d => pure (.own d) := (rfl)
@[simp] theorem gName_ev (i : Nat) (d : D) (ρ : Env) : gName i d ρ = pure (ρ.set i (.va d)) := (rfl)
@[simp] theorem gTup_ev (gs : List GF) (ds : List D) (ρ : Env) : gTup gs (.tup ds) ρ = gTupL gs ds ρ := (rfl)
@[simp] theorem gTupL_nil (ρ : Env) : gTupL [] [] ρ = pure ρ := (rfl)
@[simp] theorem gTupL_cons (g : GF) (gs : List GF) (d : D) (ds : List D) (ρ : Env) : gTupL (g :: gs) (d :: ds) ρ = g d ρ >>= fun ρ' => gTupL gs ds ρ' := (rfl)
@[simp] theorem wipe_nil (ρ : Env) : wipe ρ [] = ρ := (rfl)
@[simp] theorem wipe_cons (ρ : Env) (v : Nat) (vs : List Nat) : wipe ρ (v :: vs) = (wipe ρ vs).set v .no := (rfl)
@[simp] theorem cComp_ev (vs : List Nat) (it : AF) (g : GF) (t : TF) (e : EF) (ρ : Env) : cComp vs it g t e ρ = it ρ >>= fun xs => compL g t e (wipe ρ vs) xs := (rfl)
@[simp] theorem sNil_ev (ρ : Env) : sNil ρ = pure (.nx ρ) := (rfl)
def thenF (b : SF) : Fl → M Fl
  | .nx ρ' => b ρ'
  | f => pure f
@[simp] theorem thenF_nx (b : SF) (ρ : Env) : thenF b (.nx ρ) = b ρ := (rfl)
@[simp] theorem thenF_rt (b : SF) (d : D) : thenF b (.rt d) = pure (.rt d) := (rfl)
@[simp] theorem thenF_bk (b : SF) (ρ : Env) : thenF b (.bk ρ) = pure (.bk ρ) := (rfl)
@[simp] theorem thenF_ct (b : SF) (ρ : Env) : thenF b (.ct ρ) = pure (.ct ρ) := (rfl)
theorem sSeq_eq (a b : SF) (ρ : Env) : sSeq a b ρ = a ρ >>= thenF b := by
  show (a ρ >>= _) = _
  have : ∀ f : Fl, (match f with
    | .nx ρ' => b ρ'
    | f => pure f) = thenF b f := fun f => by cases f <;> rfl
  exact congrArg (fun k => a ρ >>= k) (funext this)
@[simp] theorem sSeq_ev (a b : SF) (ρ : Env) : sSeq a b ρ = a ρ >>= thenF b := sSeq_eq a b ρ
@[simp] theorem sExpr_ev (e : EF) (ρ : Env) : sExpr e ρ = e ρ >>= fun _ => pure (.nx ρ) := (rfl)
@[simp] theorem sRet_ev (e : EF) (ρ : Env) : sRet e ρ = e ρ >>= fun d => pure (.rt d) := (rfl)
@[simp] theorem sRetN_ev (ρ : Env) : sRetN ρ = pure (.rt .non) := (rfl)
@[simp] theorem sIf_ev (t : TF) (a b : SF) (ρ : Env) : sIf t a b ρ = t ρ >>= fun c => if c = true then a ρ else b ρ := (rfl)
@[simp] theorem sAsg_ev (g : GF) (e : EF) (ρ : Env) : sAsg g e ρ = e ρ >>= fun d => g d ρ >>= fun ρ' => pure (.nx ρ') := (rfl)
@[simp] theorem sSet_ev (i : Nat) (x : XF) (ρ : Env) : sSet i x ρ = x ρ >>= fun s => pure (.nx (ρ.set i s)) := (rfl)
@[simp] theorem sPar_ev (i j : Nat) (x y : XF) (ρ : Env) : sPar i j x y ρ = x ρ >>= fun s => y ρ >>= fun u => pure (.nx ((ρ.set i s).set j u)) := (rfl)
@[simp] theorem sBrk_ev (ρ : Env) : sBrk ρ = pure (.bk ρ) := (rfl)
@[simp] theorem sCnt_ev (ρ : Env) : sCnt ρ = pure (.ct ρ) := (rfl)
@[simp] theorem sNever_ev (ρ : Env) : sNever ρ = M.bad := (rfl)
@[simp] theorem sFor_ev (it : AF) (g : GF) (b : SF) (ρ : Env) : sFor it g b ρ = it ρ >>= fun xs => forL g b xs ρ := (rfl)
@[simp] theorem ownAt_0 (xs : List D) (ρ : Env) : ownAt 0 (.own xs :: ρ) = pure xs := (rfl)
@[simp] theorem ownAt_s (i : Nat) (s : Sl) (ρ : Env) : ownAt (i + 1) (s :: ρ) = ownAt i ρ := (rfl)
@[simp] theorem sExt_ev (i : Nat) (e : EF) (ρ : Env) : sExt i e ρ = ownAt i ρ >>= fun xs => e ρ >>= fun y => asLst y >>= fun ys => fit (xs.length + ys.length) (pure (.nx (ρ.set i (.own (xs ++ ys))))) := (rfl)
@[simp] theorem sApp_ev (i : Nat) (e : EF) (ρ : Env) : sApp i e ρ = ownAt i ρ >>= fun xs => e ρ >>= fun y => fit (xs.length + 1) (pure (.nx (ρ.set i (.own (xs ++ [y]))))) := (rfl)
@[simp] theorem sWhile_ev (n : Nat) (t : TF) (b : SF) (ρ : Env) : sWhile n t b ρ = whileL t b n ρ := (rfl)
@[simp] theorem sPut_ev (o k e : EF) (put : D → D → D → M Unit) (ρ : Env) : sPut o k e put ρ = e ρ >>= fun v => o ρ >>= fun x => k ρ >>= fun y => put x y v >>= fun _ => pure (.nx ρ) := (rfl)
@[simp] theorem sFrz_own0 (xs : List D) (ρ : Env) : sFrz 0 (.own xs :: ρ) = pure (.nx (.va (.lst xs) :: ρ)) := (rfl)
@[simp] theorem asBl_bl (b : Bool) : asBl (.bl b) = pure b := (rfl)
@[simp] theorem asLst_lst (xs : List D) : asLst (.lst xs) = pure xs := (rfl)
@[simp] theorem asInt_int (i : Int) : asInt (.int i) = pure i := (rfl)
@[simp] theorem asSeq_lst (xs : List D) : asSeq (.lst xs) = pure xs := (rfl)
@[simp] theorem asSeq_tup (xs : List D) : asSeq (.tup xs) = pure xs := (rfl)
@[simp] theorem asSeq_scr (xs : List D) : asSeq (.scr xs) = pure xs := (rfl)
@[simp] theorem pNone_ev (ρ : Env) : pNone ρ = pure none := (rfl)
@[simp] theorem pSome_ev (a : EF) (ρ : Env) : pSome a ρ = a ρ >>= fun x => asInt x >>= fun i => pure (some i) := (rfl)
@[simp] theorem eSlice_ev (a : EF) (lo hi : PF) (ρ : Env) : eSlice a lo hi ρ = a ρ >>= fun x => lo ρ >>= fun l => hi ρ >>= fun h => cutD x l h := (rfl)
@[simp] theorem lSlice_ev (a : EF) (lo hi : PF) (ρ : Env) : lSlice a lo hi ρ = a ρ >>= fun x => lo ρ >>= fun l => hi ρ >>= fun h => asLst x >>= fun xs => pure (cut xs l h) := (rfl)
@[simp] theorem catL_ev (a b : EF) (ρ : Env) : catL a b ρ = a ρ >>= fun x => b ρ >>= fun y => asLst x >>= fun xs => asLst y >>= fun ys => fit (xs.length + ys.length) (pure (xs ++ ys)) := (rfl)
@[simp] theorem eIsin_ev (a : EF) (t : Ty) (ρ : Env) : eIsin a t ρ = a ρ >>= fun x => isIn x t >>= fun b => pure (.bl b) := (rfl)
theorem iAny_lst' (a : EF) (ρ : Env) (xs : List D) (h : a ρ = pure (.lst xs)) : iAny a ρ = pure xs := by
  unfold iAny; rw [h]; rfl
def itemsOf : D → M (List D)
  | .str s => pure (s.cps.toList.map fun c => .str ⟨#[c]⟩)
  | .lst xs => pure xs
  | .tup xs => pure xs
  | _ => M.bad
@[simp] theorem itemsOf_str (s : Str) : itemsOf (.str s) = pure (s.cps.toList.map fun c => .str ⟨#[c]⟩) := (rfl)
@[simp] theorem itemsOf_lst (xs : List D) : itemsOf (.lst xs) = pure xs := (rfl)
@[simp] theorem itemsOf_tup (xs : List D) : itemsOf (.tup xs) = pure xs := (rfl)
@[simp] theorem iAny_ev (a : EF) (ρ : Env) : iAny a ρ = a ρ >>= itemsOf := by
  exact congrArg (fun k => a ρ >>= k) (funext fun x => by cases x <;> rfl)
@[simp] theorem isNoneD_non : isNoneD .non = pure (.bl true) := (rfl)
@[simp] theorem isNoneD_bl (b : Bool) : isNoneD (.bl b) = pure (.bl false) := (rfl)
@[simp] theorem isNoneD_int (i : Int) : isNoneD (.int i) = pure (.bl false) := (rfl)
@[simp] theorem isNoneD_str (s : Str) : isNoneD (.str s) = pure (.bl false) := (rfl)
@[simp] theorem isNoneD_tup (xs : List D) : isNoneD (.tup xs) = pure (.bl false) := (rfl)
@[simp] theorem isNoneD_lst (xs : List D) : isNoneD (.lst xs) = pure (.bl false) := (rfl)
@[simp] theorem isNotNoneD_non : isNotNoneD .non = pure (.bl false) := (rfl)
@[simp] theorem isNotNoneD_bl (b : Bool) : isNotNoneD (.bl b) = pure (.bl true) := (rfl)
@[simp] theorem isNotNoneD_int (i : Int) : isNotNoneD (.int i) = pure (.bl true) := (rfl)
@[simp] theorem isNotNoneD_str (s : Str) : isNotNoneD (.str s) = pure (.bl true) := (rfl)
@[simp] theorem isNotNoneD_tup (xs : List D) : isNotNoneD (.tup xs) = pure (.bl true) := (rfl)
@[simp] theorem isNotNoneD_lst (xs : List D) : isNotNoneD (.lst xs) = pure (.bl true) := (rfl)
@[simp] theorem isIn_non (t : Ty) : isIn .non t = pure false := by cases t <;> rfl
@[simp] theorem isIn_bl (b : Bool) (t : Ty) : isIn (.bl b) t = pure (decide (t = .int) || decide (t = .bool)) := by cases t <;> rfl
@[simp] theorem isIn_int (i : Int) (t : Ty) : isIn (.int i) t = pure (decide (t = .int)) := by cases t <;> rfl
@[simp] theorem isIn_str (s : Str) (t : Ty) : isIn (.str s) t = pure (decide (t = .str)) := by cases t <;> rfl
@[simp] theorem isIn_tup (xs : List D) (t : Ty) : isIn (.tup xs) t = pure (decide (t = .tuple)) := by cases t <;> rfl
@[simp] theorem isIn_lst (xs : List D) (t : Ty) : isIn (.lst xs) t = pure (decide (t = .list)) := by cases t <;> rfl
@[simp] theorem lenD_tup (xs : List D) : lenD [.tup xs] = pure (.int xs.length) := (rfl)
@[simp] theorem lenD_lst (xs : List D) : lenD [.lst xs] = pure (.int xs.length) := (rfl)
@[simp] theorem lenD_scr (xs : List D) : lenD [.scr xs] = pure (.int xs.length) := (rfl)
@[simp] theorem lenD_str (s : Str) : lenD [.str s] = pure (.int s.length) := (rfl)
@[simp] theorem ltD_int (i j : Int) : ltD (.int i) (.int j) = pure (.bl (decide (i < j))) := (rfl)
@[simp] theorem ltD_bl (a b : Bool) : ltD (.bl a) (.bl b) = pure (.bl (decide (b2i a < b2i b))) := (rfl)
@[simp] theorem ltD_str (x y : Str) : ltD (.str x) (.str y) = pure (.bl (decide (x.cps.toList < y.cps.toList))) := (rfl)
@[simp] theorem leD_int (i j : Int) : leD (.int i) (.int j) = pure (.bl (decide (i ≤ j))) := (rfl)
@[simp] theorem leD_str (x y : Str) : leD (.str x) (.str y) = pure (.bl (!decide (y.cps.toList < x.cps.toList))) := (rfl)
@[simp] theorem gtD_int (i j : Int) : gtD (.int i) (.int j) = pure (.bl (decide (j < i))) := (rfl)
@[simp] theorem geD_int (i j : Int) : geD (.int i) (.int j) = pure (.bl (decide (j ≤ i))) := (rfl)
@[simp] theorem addD_int (i j : Int) : addD (.int i) (.int j) = pure (.int (i + j)) := (rfl)
@[simp] theorem subD_int (i j : Int) : subD (.int i) (.int j) = pure (.int (i - j)) := (rfl)
@[simp] theorem negD_int (i : Int) : negD (.int i) = pure (.int (-i)) := (rfl)
@[simp] theorem absD_int (i : Int) : absD [.int i] = pure (.int (if i < 0 then -i else i)) := (rfl)
@[simp] theorem intD_int (i : Int) : intD [.int i] = pure (.int i) := (rfl)
@[simp] theorem listD_ev (x : D) : listD [x] = asSeq x := (rfl)
@[simp] theorem tupleD_lst (xs : List D) : tupleD [.lst xs] = pure (.tup xs) := (rfl)
@[simp] theorem tupleD_tup (xs : List D) : tupleD [.tup xs] = pure (.tup xs) := (rfl)
@[simp] theorem allD_lst (xs : List D) : allD [.lst xs] = allBl xs >>= fun bs => pure (.bl (bs.all id)) := (rfl)
@[simp] theorem anyD_lst (xs : List D) : anyD [.lst xs] = allBl xs >>= fun bs => pure (.bl (bs.any id)) := (rfl)
@[simp] theorem revD_tup (xs : List D) : revD (.tup xs) = pure (.tup xs.reverse) := (rfl)
@[simp] theorem cutD_tup (xs : List D) (l h : Option Int) : cutD (.tup xs) l h = pure (.tup (cut xs l h)) := (rfl)
@[simp] theorem cutD_lst (xs : List D) (l h : Option Int) : cutD (.lst xs) l h = pure (.lst (cut xs l h)) := (rfl)
@[simp] theorem inD_sign (c : Nat) (y : Str) : inD (.str ⟨#[c]⟩) (.str y) = pure (.bl (decide (c ∈ y.cps.toList))) := (rfl)
@[simp] theorem notInD_sign (c : Nat) (y : Str) : notInD (.str ⟨#[c]⟩) (.str y) = pure (.bl (!decide (c ∈ y.cps.toList))) := (rfl)
@[simp] theorem zipD_tt (a b : List D) : zipD [.tup a, .tup b] = pure (zipL a b) := (rfl)
@[simp] theorem zipD_ll (a b : List D) : zipD [.lst a, .lst b] = pure (zipL a b) := (rfl)
@[simp] theorem zipD_tl (a b : List D) : zipD [.tup a, .lst b] = pure (zipL a b) := (rfl)
@[simp] theorem zipD_lt (a b : List D) : zipD [.lst a, .tup b] = pure (zipL a b) := (rfl)
theorem zipL_map {α β : Type} (f : α → D) (g : β → D) (xs : List α) (ys : List β) : zipL (xs.map f) (ys.map g) = (xs.zip ys).map fun p => .tup [f p.1, g p.2] := by
  unfold zipL
  rw [List.zip_map, List.map_map]
  rfl
theorem cut_tail (xs : List D) : cut xs (some 1) none = xs.drop 1 := by
  unfold cut
  cases xs with
  | nil => rfl
  | cons x r =>
    show ((x :: r).drop (min 1 (r.length + 1))).take (r.length + 1 - min 1 (r.length + 1)) = r
    have : min 1 (r.length + 1) = 1 := by omega
    rw [this, Nat.add_sub_cancel]
    exact List.take_length
theorem need_of {α : Type} {b : Bool} (h : b = true) (x : M α) : need b x = x := by rw [h]; rfl
@[simp] theorem eqv_str (a b : Str) : D.eqv (.str a) (.str b) = (a == b) := by simp [D.eqv]
@[simp] theorem eqv_int (a b : Int) : D.eqv (.int a) (.int b) = (a == b) := by simp [D.eqv]
theorem memD_str (x : Str) (ss : List Str) : memD (.str x) (ss.map D.str) = decide (x ∈ ss) := by
  unfold memD
  rw [List.any_map, Bool.eq_iff_iff, List.any_eq_true, decide_eq_true_eq]
  constructor
  · rintro ⟨y, hy, e⟩
    have e' : D.eqv (.str y) (.str x) = true := e
    rw [eqv_str] at e'
    rw [← eq_of_beq e']; exact hy
  · intro h
    exact ⟨x, h, by show D.eqv (.str x) (.str x) = true; rw [eqv_str]; exact beq_self_eq_true x⟩
theorem depL_str : ∀ ss : List Str, D.depL (ss.map D.str) = 0
  | [] => rfl
  | x :: r => by
    show max (D.dep (.str x)) (D.depL (r.map D.str)) = 0
    rw [depL_str r]; rfl
theorem inB_strT (x : Str) (ss : List Str) : inB (.str x) (.tup (ss.map D.str)) = pure (decide (x ∈ ss)) := by
  show need (D.flat (.str x) && (ss.map D.str).all D.flat) (pure (memD (.str x) (ss.map D.str))) = _
  rw [memD_str, need_of]
  rw [List.all_map, Bool.and_eq_true, List.all_eq_true]
  exact ⟨rfl, fun _ _ => rfl⟩
theorem inB_strL (x : Str) (ss : List Str) : inB (.str x) (.lst (ss.map D.str)) = pure (decide (x ∈ ss)) := by
  show need (decide (D.dep (.str x) ≤ 64) && decide (D.depL (ss.map D.str) ≤ 63)) (pure (memD (.str x) (ss.map D.str))) = _
  rw [memD_str, need_of]
  rw [depL_str]; rfl
@[simp] theorem inD_strT (x : Str) (ss : List Str) : inD (.str x) (.tup (ss.map D.str)) = pure (.bl (decide (x ∈ ss))) := by unfold inD; rw [inB_strT]; rfl
@[simp] theorem inD_strL (x : Str) (ss : List Str) : inD (.str x) (.lst (ss.map D.str)) = pure (.bl (decide (x ∈ ss))) := by unfold inD; rw [inB_strL]; rfl
@[simp] theorem notInD_strT (x : Str) (ss : List Str) : notInD (.str x) (.tup (ss.map D.str)) = pure (.bl (!decide (x ∈ ss))) := by unfold notInD; rw [inB_strT]; rfl
@[simp] theorem notInD_strL (x : Str) (ss : List Str) : notInD (.str x) (.lst (ss.map D.str)) = pure (.bl (!decide (x ∈ ss))) := by unfold notInD; rw [inB_strL]; rfl
/-- [..] == [] -/
theorem eqD_nil (xs : List D) (h : (D.lst xs).dep ≤ 64) : eqD (.lst xs) (.lst []) = pure (.bl xs.isEmpty) := by
  unfold eqD
  rw [need_of (by rw [decide_eq_true h]; rfl)]
  cases xs <;> rfl
theorem neD_nil (xs : List D) (h : (D.lst xs).dep ≤ 64) : neD (.lst xs) (.lst []) = pure (.bl (!xs.isEmpty)) := by
  unfold neD
  rw [need_of (by rw [decide_eq_true h]; rfl)]
  cases xs <;> rfl
theorem dep_strs (ss : List Str) : (D.lst (ss.map D.str)).dep ≤ 64 := by
  unfold D.dep; rw [depL_str]; decide
@[simp] theorem optM_some {α : Type} (a : α) : optM (some a) = pure a := (rfl)
@[simp] theorem ixD_tup (xs : List D) (i : Int) : ixD (.tup xs) (.int i) = optM (atI xs i) := (rfl)
@[simp] theorem ixD_lst (xs : List D) (i : Int) : ixD (.lst xs) (.int i) = optM (atI xs i) := (rfl)
@[simp] theorem ixD_str (s : Str) (i : Int) : ixD (.str s) (.int i) = optM (atI s.cps.toList i) >>= fun c => pure (.str ⟨#[c]⟩) := (rfl)
@[simp] theorem isBlD_bl (a b : Bool) : isBlD (.bl a) (.bl b) = pure (.bl (decide (a = b))) := (rfl)
@[simp] theorem isNotBlD_bl (a b : Bool) : isNotBlD (.bl a) (.bl b) = pure (.bl (!decide (a = b))) := (rfl)
@[simp] theorem need_true {α : Type} (x : M α) : need true x = x := (rfl)
@[simp] theorem fit_le {α : Type} {n : Nat} (h : n ≤ LIM) (x : M α) : fit n x = x := if_pos h
theorem atI_nat {α : Type} (xs : List α) (i : Nat) : atI xs (i : Int) = xs[i]? := by
  unfold atI ixN
  rw [if_pos (Int.natCast_nonneg i)]
  by_cases h : (i : Int) < (xs.length : Int)
  · rw [if_pos h]; rfl
  · rw [if_neg h, List.getElem?_eq_none (by omega)]; rfl
@[simp] theorem atI_0 {α : Type} (xs : List α) : atI xs 0 = xs[0]? := atI_nat xs 0
@[simp] theorem atI_1 {α : Type} (xs : List α) : atI xs 1 = xs[1]? := atI_nat xs 1
/-- a comprehension whose parts are values -/
theorem compL_val {g : GF} {t : TF} {e : EF} {ρ : Env} (p : D → Bool) (f : D → D) : ∀ {xs : List D}, (∀ x ∈ xs, ∃ ρ1, g x ρ = pure ρ1 ∧ t ρ1 = pure (p x) ∧ (p x = true → e ρ1 = pure (f x))) → compL g t e ρ xs = pure ((xs.filter p).map f)
  | [], _ => rfl
  | x :: xs, h => by
    obtain ⟨ρ1, h1, h2, h3⟩ := h x List.mem_cons_self
    have ih := compL_val (g := g) (t := t) (e := e) (ρ := ρ) p f (xs := xs) fun y hy => h y (List.mem_cons_of_mem _ hy)
    show (g x ρ >>= fun ρ1 => t ρ1 >>= fun c => if c = true then e ρ1 >>= fun y => compL g t e ρ xs >>= fun ys => pure (y :: ys) else compL g t e ρ xs) = _
    rw [h1, M.pureb', h2, M.pureb', ih]
    cases hp : p x with
    | true => rw [if_pos rfl, h3 hp, List.filter_cons, if_pos hp]; rfl
    | false => rw [if_neg (fun z => nomatch z), List.filter_cons, if_neg (by rw [hp]; exact fun z => nomatch z)]
/-- .. without a test -/
theorem compL_map {g : GF} {e : EF} {ρ : Env} (f : D → D) {xs : List D} (h : ∀ x ∈ xs, ∃ ρ1, g x ρ = pure ρ1 ∧ e ρ1 = pure (f x)) : compL g tYes e ρ xs = pure (xs.map f) := by
  have := compL_val (t := tYes) (fun _ => true) f fun x hx => let ⟨ρ1, h1, h2⟩ := h x hx; ⟨ρ1, h1, rfl, fun _ => h2⟩
  rw [List.filter_eq_self.mpr fun _ _ => rfl] at this
  exact this
theorem allBl_map (q : D → Bool) : ∀ xs : List D, allBl (xs.map fun x => .bl (q x)) = pure (xs.map q)
  | [] => rfl
  | x :: xs => by
    show (allBl (xs.map fun x => .bl (q x)) >>= fun bs => pure (q x :: bs)) = _
    rw [allBl_map q xs]; rfl
/-- all([.. for .. in ..]) -/
theorem all_comp {g : GF} {e : EF} {ρ : Env} (q : D → Bool) {xs : List D} (h : ∀ x ∈ xs, ∃ ρ1, g x ρ = pure ρ1 ∧ e ρ1 = pure (.bl (q x))) : (compL g tYes e ρ xs >>= fun ys => allD [.lst ys]) = pure (.bl (xs.all q)) := by
  rw [compL_map (fun x => .bl (q x)) h]
  show (allBl _ >>= fun bs => (pure (D.bl (bs.all id)) : M D)) = _
  rw [allBl_map]
  show (pure (D.bl ((xs.map q).all id)) : M D) = _
  rw [List.all_map]; rfl
theorem any_comp {g : GF} {e : EF} {ρ : Env} (q : D → Bool) {xs : List D} (h : ∀ x ∈ xs, ∃ ρ1, g x ρ = pure ρ1 ∧ e ρ1 = pure (.bl (q x))) : (compL g tYes e ρ xs >>= fun ys => anyD [.lst ys]) = pure (.bl (xs.any q)) := by
  rw [compL_map (fun x => .bl (q x)) h]
  show (allBl _ >>= fun bs => (pure (D.bl (bs.any id)) : M D)) = _
  rw [allBl_map]
  show (pure (D.bl ((xs.map q).any id)) : M D) = _
  rw [List.any_map]; rfl
/-- .. the items being of a kind of their own -/
theorem compL_valM {α : Type} {g : GF} {t : TF} {e : EF} {ρ : Env} (k : α → D) (p : α → Bool) (f : α → D) : ∀ {xs : List α}, (∀ x ∈ xs, ∃ ρ1, g (k x) ρ = pure ρ1 ∧ t ρ1 = pure (p x) ∧ (p x = true → e ρ1 = pure (f x))) → compL g t e ρ (xs.map k) = pure ((xs.filter p).map f)
  | [], _ => rfl
  | x :: xs, h => by
    obtain ⟨ρ1, h1, h2, h3⟩ := h x List.mem_cons_self
    have ih := compL_valM (g := g) (t := t) (e := e) (ρ := ρ) k p f (xs := xs) fun y hy => h y (List.mem_cons_of_mem _ hy)
    show (g (k x) ρ >>= fun ρ1 => t ρ1 >>= fun c => if c = true then e ρ1 >>= fun y => compL g t e ρ (xs.map k) >>= fun ys => pure (y :: ys) else compL g t e ρ (xs.map k)) = _
    rw [h1, M.pureb', h2, M.pureb', ih]
    cases hp : p x with
    | true => rw [if_pos rfl, h3 hp, List.filter_cons, if_pos hp]; rfl
    | false => rw [if_neg (fun z => nomatch z), List.filter_cons, if_neg (by rw [hp]; exact fun z => nomatch z)]
theorem compL_mapM {α : Type} {g : GF} {e : EF} {ρ : Env} (k f : α → D) {xs : List α} (h : ∀ x ∈ xs, ∃ ρ1, g (k x) ρ = pure ρ1 ∧ e ρ1 = pure (f x)) : compL g tYes e ρ (xs.map k) = pure (xs.map f) := by
  have := compL_valM (t := tYes) k (fun _ => true) f fun x hx => let ⟨ρ1, h1, h2⟩ := h x hx; ⟨ρ1, h1, rfl, fun _ => h2⟩
  rw [List.filter_eq_self.mpr fun _ _ => rfl] at this
  exact this
theorem allBl_mapM {α : Type} (q : α → Bool) : ∀ xs : List α, allBl (xs.map fun x => .bl (q x)) = pure (xs.map q)
  | [] => rfl
  | x :: xs => by
    show (allBl (xs.map fun x => .bl (q x)) >>= fun bs => pure (q x :: bs)) = _
    rw [allBl_mapM q xs]; rfl
theorem all_compM {α : Type} {g : GF} {e : EF} {ρ : Env} (k : α → D) (q : α → Bool) {xs : List α} (h : ∀ x ∈ xs, ∃ ρ1, g (k x) ρ = pure ρ1 ∧ e ρ1 = pure (.bl (q x))) :
    (compL g tYes e ρ (xs.map k) >>= fun ys => allBl ys >>= fun bs => (pure (.bl (bs.all id)) : M D)) = pure (.bl (xs.all q)) := by
  rw [compL_mapM k (fun x => .bl (q x)) h, M.pureb', allBl_mapM, M.pureb', List.all_map]; rfl
theorem any_compM {α : Type} {g : GF} {e : EF} {ρ : Env} (k : α → D) (q : α → Bool) {xs : List α} (h : ∀ x ∈ xs, ∃ ρ1, g (k x) ρ = pure ρ1 ∧ e ρ1 = pure (.bl (q x))) :
    (compL g tYes e ρ (xs.map k) >>= fun ys => allBl ys >>= fun bs => (pure (.bl (bs.any id)) : M D)) = pure (.bl (xs.any q)) := by
  rw [compL_mapM k (fun x => .bl (q x)) h, M.pureb', allBl_mapM, M.pureb', List.any_map]; rfl
theorem all_compL {g : GF} {e : EF} {ρ : Env} (q : D → Bool) {xs : List D} (h : ∀ x ∈ xs, ∃ ρ1, g x ρ = pure ρ1 ∧ e ρ1 = pure (.bl (q x))) :
    (compL g tYes e ρ xs >>= fun ys => allBl ys >>= fun bs => (pure (.bl (bs.all id)) : M D)) = pure (.bl (xs.all q)) := by
  have := all_compM (g := g) (e := e) (ρ := ρ) id q (xs := xs) h
  rwa [List.map_id] at this
/-- [name for name in a if name not in b] -/
theorem comp_notIn {g : GF} {t : TF} {e : EF} {ρ : Env} (ss : List Str) (p : Str → Bool) (h : ∀ x ∈ ss, ∃ ρ1, g (.str x) ρ = pure ρ1 ∧ t ρ1 = pure (p x) ∧ e ρ1 = pure (.str x)) : compL g t e ρ (ss.map D.str) = pure ((ss.filter p).map D.str) :=
  compL_valM D.str p D.str fun x hx => let ⟨ρ1, h1, h2, h3⟩ := h x hx; ⟨ρ1, h1, h2, fun _ => h3⟩
theorem allStr_map : ∀ ss : List Str, allStr (ss.map D.str) = pure ss
  | [] => rfl
  | x :: r => by
    show (allStr (r.map D.str) >>= fun ss => pure (x :: ss)) = _
    rw [allStr_map r]; rfl
theorem sortD_strs {ss : List Str} (h : ss.length < 64) : sortD [.lst (ss.map D.str)] = pure ((sortS ss).map D.str) := by
  show (allStr (ss.map D.str) >>= fun ss => need (decide (ss.length < 64)) (pure ((sortS ss).map D.str))) = _
  rw [allStr_map, M.pureb', need_of (decide_eq_true h)]
def D.plain : D → Bool
  | .non => true
  | .bl _ => true
  | .int _ => true
  | .str _ => true
  | .tup _ => true
  | .lst _ => true
  | _ => false
def outF : Fl → M D
  | .nx _ => pure .non
  | .rt d => pure d
  | _ => M.bad
@[simp] theorem outF_nx (ρ : Env) : outF (.nx ρ) = pure .non := (rfl)
@[simp] theorem outF_rt (d : D) : outF (.rt d) = pure d := (rfl)
theorem runB_ev {np n : Nat} {b : SF} {ds : List D} (h : ds.length = np) : runB np n b ds = b (ds.map Sl.va ++ List.replicate (n - ds.length) Sl.no) >>= outF := by
  unfold runB runC
  rw [if_pos h]
  exact congrArg (fun k => b (ds.map Sl.va ++ List.replicate (n - ds.length) Sl.no) >>= k) (funext fun x => by cases x <;> rfl)
@[simp] theorem runB_1 (n : Nat) (b : SF) (x : D) : runB 1 (n + 1) b [x] = b (.va x :: List.replicate n Sl.no) >>= outF := runB_ev rfl
@[simp] theorem runB_2 (n : Nat) (b : SF) (x y : D) : runB 2 (n + 2) b [x, y] = b (.va x :: .va y :: List.replicate n Sl.no) >>= outF := runB_ev rfl
@[simp] theorem runB_3 (n : Nat) (b : SF) (x y z : D) : runB 3 (n + 3) b [x, y, z] = b (.va x :: .va y :: .va z :: List.replicate n Sl.no) >>= outF := runB_ev rfl
@[simp] theorem runB_4 (n : Nat) (b : SF) (x y z u : D) : runB 4 (n + 4) b [x, y, z, u] = b (.va x :: .va y :: .va z :: .va u :: List.replicate n Sl.no) >>= outF := runB_ev rfl
@[simp] theorem runB_5 (n : Nat) (b : SF) (x y z u v : D) : runB 5 (n + 5) b [x, y, z, u, v] = b (.va x :: .va y :: .va z :: .va u :: .va v :: List.replicate n Sl.no) >>= outF := runB_ev rfl
theorem sPop_snoc {i : Nat} {g : GF} {ρ : Env} {xs : List D} {y : D} (h : ρ[i]? = some (.own (xs ++ [y]))) : sPop i g ρ = g y (ρ.set i (.own xs)) >>= fun ρ' => pure (.nx ρ') := by
  have e : ownAt i ρ = pure (xs ++ [y]) := by unfold ownAt; rw [h]
  unfold sPop
  rw [e, M.pureb']
  have e1 : (xs ++ [y]).getLast? = some y := by simp
  have e2 : (xs ++ [y]).dropLast = xs := by simp
  rw [e1]
  show (g y (ρ.set i (.own (xs ++ [y]).dropLast)) >>= fun ρ' => pure (Fl.nx ρ')) = _
  rw [e2]
def nextF (g : GF) (b : SF) (xs : List D) : Fl → M Fl
  | .nx ρ2 => forL g b xs ρ2
  | .ct ρ2 => forL g b xs ρ2
  | .bk ρ2 => pure (.nx ρ2)
  | .rt d => pure (.rt d)
@[simp] theorem nextF_nx (g : GF) (b : SF) (xs : List D) (ρ : Env) : nextF g b xs (.nx ρ) = forL g b xs ρ := (rfl)
@[simp] theorem nextF_ct (g : GF) (b : SF) (xs : List D) (ρ : Env) : nextF g b xs (.ct ρ) = forL g b xs ρ := (rfl)
@[simp] theorem nextF_bk (g : GF) (b : SF) (xs : List D) (ρ : Env) : nextF g b xs (.bk ρ) = pure (.nx ρ) := (rfl)
@[simp] theorem nextF_rt (g : GF) (b : SF) (xs : List D) (d : D) : nextF g b xs (.rt d) = pure (.rt d) := (rfl)
@[simp] theorem forL_nil (g : GF) (b : SF) (ρ : Env) : forL g b [] ρ = pure (.nx ρ) := (rfl)
theorem forL_cons (g : GF) (b : SF) (x : D) (xs : List D) (ρ : Env) : forL g b (x :: xs) ρ = g x ρ >>= fun ρ1 => b ρ1 >>= nextF g b xs := by
  show (g x ρ >>= fun ρ1 => b ρ1 >>= _) = _
  exact congrArg (fun k => g x ρ >>= k) (funext fun ρ1 => congrArg (fun k => b ρ1 >>= k) (funext fun f => by cases f <;> rfl))
theorem eqvL_str : ∀ a b : List Str, D.eqvL (a.map D.str) (b.map D.str) = (a == b)
  | [], [] => by simp [D.eqvL]
  | [], _ :: _ => by simp [D.eqvL]
  | _ :: _, [] => by simp [D.eqvL]
  | x :: a, y :: b => by
    rw [List.map_cons, List.map_cons]
    unfold D.eqvL
    rw [eqvL_str a b, eqv_str]
    rfl
theorem eqD_T (a b : List Str) : eqD (.tup (a.map D.str)) (.tup (b.map D.str)) = pure (.bl (a == b)) := by
  unfold eqD
  rw [need_of (by unfold D.dep; rw [depL_str, depL_str]; rfl)]
  unfold D.eqv
  rw [eqvL_str]
theorem depL_map {α : Type} (f : α → D) (n : Nat) (h : ∀ x, (f x).dep ≤ n) : ∀ xs : List α, D.depL (xs.map f) ≤ n
  | [] => Nat.zero_le _
  | x :: r => by
    rw [List.map_cons]
    unfold D.depL
    exact Nat.max_le.mpr ⟨h x, depL_map f n h r⟩
theorem eqvL_int {α : Type} (u v : α → Int) : ∀ A : List α, D.eqvL (A.map fun x => .int (u x)) (A.map fun x => .int (v x)) = A.all fun x => decide (u x = v x)
  | [] => by simp [D.eqvL]
  | x :: A => by
    rw [List.map_cons, List.map_cons]
    unfold D.eqvL
    rw [eqvL_int u v A, eqv_int, List.all_cons]
    congr 1
theorem eqD_ints {α : Type} (u v : α → Int) (A : List α) : eqD (.tup (A.map fun x => .int (u x))) (.tup (A.map fun x => .int (v x))) = pure (.bl (A.all fun x => decide (u x = v x))) := by
  have h : ∀ w : α → Int, (D.tup (A.map fun x => .int (w x))).dep ≤ 64 := fun w => by
    have := depL_map (fun x => D.int (w x)) 0 (fun x => Nat.le_refl _) A
    unfold D.dep; omega
  unfold eqD
  rw [need_of (by rw [decide_eq_true (h u), decide_eq_true (h v)]; rfl)]
  unfold D.eqv
  rw [eqvL_int]
theorem neD_ints {α : Type} (u v : α → Int) (A : List α) : neD (.tup (A.map fun x => .int (u x))) (.tup (A.map fun x => .int (v x))) = pure (.bl (!A.all fun x => decide (u x = v x))) := by
  have h : ∀ w : α → Int, (D.tup (A.map fun x => .int (w x))).dep ≤ 64 := fun w => by
    have := depL_map (fun x => D.int (w x)) 0 (fun x => Nat.le_refl _) A
    unfold D.dep; omega
  unfold neD
  rw [need_of (by rw [decide_eq_true (h u), decide_eq_true (h v)]; rfl)]
  unfold D.eqv
  rw [eqvL_int]
/-! ### dict(pairs) -/
theorem pairsOf_map {α : Type} (f : α → Str) (g : α → D) : ∀ xs : List α, pairsOf (xs.map fun x => .tup [.str (f x), g x]) = pure (xs.map fun x => (.str (f x), g x))
  | [] => rfl
  | x :: r => by
    show need (isKey (.str (f x))) (pairsOf (r.map fun x => .tup [.str (f x), g x]) >>= fun ps => pure ((.str (f x), g x) :: ps)) = _
    rw [pairsOf_map f g r]; rfl
theorem merge_nodup (g : Str → D) : ∀ (xs acc : List Str), (acc ++ xs).Nodup → (xs.map fun x => ((.str x : D), g x)).foldl (fun (a : List D × List D) p => putD2 a.1 a.2 p.1 p.2) (acc.map D.str, acc.map g) = ((acc ++ xs).map D.str, (acc ++ xs).map g)
  | [], acc, _ => by simp
  | x :: r, acc, nd => by
    have hx : x ∉ acc := fun hm => by
      rw [List.nodup_append] at nd
      exact nd.2.2 x hm x List.mem_cons_self rfl
    have hf : ((acc.map D.str).any fun y => D.eqv y (.str x)) = false := by
      rw [List.any_map, List.any_eq_false]
      intro y hy
      show ¬ D.eqv (.str y) (.str x) = true
      rw [eqv_str]
      intro e
      rw [eq_of_beq e] at hy
      exact hx hy
    have hp : putD2 (acc.map D.str) (acc.map g) (.str x) (g x) = ((acc ++ [x]).map D.str, (acc ++ [x]).map g) := by
      unfold putD2
      rw [hf, if_neg (by decide)]
      simp
    rw [List.map_cons, List.foldl_cons, hp]
    have := merge_nodup g r (acc ++ [x]) (by rw [List.append_assoc]; exact nd)
    rw [this, List.append_assoc]; rfl
theorem dictD_nodup (g : Str → D) {xs : List Str} (nd : xs.Nodup) : dictD [.lst (xs.map fun x => .tup [.str x, g x])] = pure (.dct (xs.map D.str) (xs.map g)) := by
  show (pairsOf _ >>= fun kvs => (pure (D.dct (mergeD kvs).1 (mergeD kvs).2) : M D)) = _
  rw [pairsOf_map (fun x => x) g, M.pureb']
  have := merge_nodup g xs [] nd
  unfold mergeD
  rw [List.map_nil, List.map_nil, List.nil_append] at this
  rw [this]
theorem look_map (g : Str → D) {x : Str} : ∀ {xs : List Str}, x ∈ xs → lookD (.str x) (xs.map D.str) (xs.map g) = some (g x)
  | [], h => by cases h
  | y :: r, h => by
    rw [List.map_cons, List.map_cons]
    unfold lookD
    rw [eqv_str]
    by_cases e : y = x
    · subst e; rw [if_pos (beq_self_eq_true y)]
    · rw [if_neg (by simpa using e)]
      exact look_map g ((List.mem_cons.mp h).resolve_left fun z => e z.symm)
theorem ixD_dct (g : Str → D) {x : Str} {xs : List Str} (h : x ∈ xs) : ixD (.dct (xs.map D.str) (xs.map g)) (.str x) = pure (g x) := by
  show optM (lookD (.str x) (xs.map D.str) (xs.map g)) = _
  rw [look_map g h]; rfl
theorem uniq_nodup : ∀ (xs acc : List Str), (acc ++ xs).Nodup → xs.foldl uniqStep acc = acc ++ xs
  | [], acc, _ => by simp
  | x :: r, acc, nd => by
    have hx : x ∉ acc := fun hm => by
      rw [List.nodup_append] at nd
      exact nd.2.2 x hm x List.mem_cons_self rfl
    have hs : uniqStep acc x = acc ++ [x] := by
      unfold uniqStep
      rw [if_neg]
      rw [List.any_eq_true]
      rintro ⟨y, hy, e⟩
      rw [eq_of_beq e] at hy
      exact hx hy
    rw [List.foldl_cons, hs, uniq_nodup r (acc ++ [x]) (by rw [List.append_assoc]; exact nd), List.append_assoc]; rfl
theorem lenSet_nodup {xs : List Str} (nd : xs.Nodup) (h : xs.length ≤ 4000) : lenSetD [.lst (xs.map D.str)] = pure (.int xs.length) := by
  show (allStr (xs.map D.str) >>= fun ss => need (decide (ss.length ≤ 4000)) (pure (D.int ((uniq ss).length : Nat)))) = _
  rw [allStr_map, M.pureb', need_of (decide_eq_true h)]
  have : uniq xs = xs := by
    unfold uniq
    have := uniq_nodup xs [] nd
    rwa [List.nil_append] at this
  rw [this]
/-! ### computations that draw nothing -/
def Ev {α : Type} (x : M α) (P : α → Prop) : Prop := ∃ a, x = pure a ∧ P a
theorem Ev.pure {α : Type} {a : α} {P : α → Prop} (h : P a) : Ev (pure a) P := ⟨a, rfl, h⟩
theorem Ev.of {α : Type} {x : M α} {a : α} {P : α → Prop} (e : x = Pure.pure a) (h : P a) : Ev x P := ⟨a, e, h⟩
theorem Ev.bind {α β : Type} {x : M α} {f : α → M β} {P : α → Prop} {Q : β → Prop} (h : Ev x P) (k : ∀ a, P a → Ev (f a) Q) : Ev (x >>= f) Q := by
  obtain ⟨a, rfl, p⟩ := h
  exact k a p
theorem Ev.mono {α : Type} {x : M α} {P Q : α → Prop} (h : Ev x P) (k : ∀ a, P a → Q a) : Ev x Q := let ⟨a, e, p⟩ := h; ⟨a, e, k a p⟩
theorem Ev.eq {α : Type} {x : M α} {a : α} (h : Ev x fun b => b = a) : x = Pure.pure a := by
  obtain ⟨b, e, rfl⟩ := h
  exact e
/-- what a turn leads to -/
def TurnP (I : Env → Prop) (Q : Fl → Prop) : Fl → Prop
  | .nx ρ' => I ρ'
  | .ct ρ' => I ρ'
  | .bk ρ' => Q (.nx ρ')
  | .rt d => Q (.rt d)
theorem Ev.tnx {I : Env → Prop} {Q : Fl → Prop} {x : M Fl} {ρ : Env} (e : x = Pure.pure (.nx ρ)) (h : I ρ) : Ev x (TurnP I Q) := ⟨_, e, h⟩
theorem Ev.trt {I : Env → Prop} {Q : Fl → Prop} {x : M Fl} {d : D} (e : x = Pure.pure (.rt d)) (h : Q (.rt d)) : Ev x (TurnP I Q) := ⟨_, e, h⟩
theorem Ev.seqO {a b : SF} {ρ ρ1 : Env} {P : D → Prop} (h : a ρ = Pure.pure (.nx ρ1)) (k : Ev (b ρ1 >>= outF) P) : Ev (sSeq a b ρ >>= outF) P := by
  rw [sSeq_eq, h]; exact k
theorem Ev.seq {a b : SF} {ρ ρ1 : Env} {P : Fl → Prop} (h : a ρ = Pure.pure (.nx ρ1)) (k : Ev (b ρ1) P) : Ev (sSeq a b ρ) P := by
  rw [sSeq_eq, h]; exact k
theorem forL_ev {g : GF} {b : SF} {Q : Fl → Prop} (I : List D → Env → Prop) (step : ∀ x xs ρ, I (x :: xs) ρ → Ev (g x ρ >>= b) (TurnP (I xs) Q)) (stop : ∀ ρ, I [] ρ → Q (.nx ρ)) : ∀ (xs : List D) (ρ : Env), I xs ρ → Ev (forL g b xs ρ) Q
  | [], ρ, h => Ev.pure (stop ρ h)
  | x :: xs, ρ, h => by
    have e : forL g b (x :: xs) ρ = (g x ρ >>= b) >>= fun f => match f with
        | .nx ρ2 => forL g b xs ρ2
        | .ct ρ2 => forL g b xs ρ2
        | .bk ρ2 => pure (.nx ρ2)
        | .rt d => pure (.rt d) := by
      rw [M.assoc']; rfl
    rw [e]
    refine Ev.bind (step x xs ρ h) fun f hf => ?_
    cases f with
    | nx ρ' => exact forL_ev I step stop xs ρ' hf
    | ct ρ' => exact forL_ev I step stop xs ρ' hf
    | bk ρ' => exact Ev.pure hf
    | rt d => exact Ev.pure hf
theorem whileL_ev {t : TF} {b : SF} {Q : Fl → Prop} (I : Nat → Env → Prop) (step : ∀ n ρ, I n ρ → (t ρ = pure true ∧ Ev (b ρ) (TurnP (fun ρ' => ∃ m, m < n ∧ I m ρ') Q)) ∨ (t ρ = pure false ∧ Q (.nx ρ))) : ∀ (k n : Nat) (ρ : Env), n < k → I n ρ → Ev (whileL t b k ρ) Q
  | 0, _, _, hk, _ => absurd hk (Nat.not_lt_zero _)
  | k + 1, n, ρ, hk, h => by
    have e : whileL t b (k + 1) ρ = t ρ >>= fun c => if c = true then b ρ >>= fun f => match f with
        | .nx ρ2 => whileL t b k ρ2
        | .ct ρ2 => whileL t b k ρ2
        | .bk ρ2 => pure (.nx ρ2)
        | .rt d => pure (.rt d)
      else pure (.nx ρ) := rfl
    rw [e]
    rcases step n ρ h with ⟨ht, hb⟩ | ⟨ht, hq⟩
    · rw [ht, M.pureb', if_pos rfl]
      refine Ev.bind hb fun f hf => ?_
      cases f with
      | nx ρ' => obtain ⟨m, hm, hi⟩ := hf; exact whileL_ev I step k m ρ' (by omega) hi
      | ct ρ' => obtain ⟨m, hm, hi⟩ := hf; exact whileL_ev I step k m ρ' (by omega) hi
      | bk ρ' => exact Ev.pure hf
      | rt d => exact Ev.pure hf
    · rw [ht, M.pureb', if_neg (fun z => nomatch z)]
      exact Ev.pure hq
/-! ### computations that may draw: S stands, P is told -/
def Tr {α : Type} (S : Cells → Prop) (x : M α) (P : α → Prop) : Prop := ∀ cs, S cs → ∃ a cs', x cs = .ok a cs' ∧ S cs' ∧ P a
theorem Tr.pure {α : Type} {S : Cells → Prop} {a : α} {P : α → Prop} (h : P a) : Tr S (pure a) P := fun cs hs => ⟨a, cs, rfl, hs, h⟩
theorem Tr.of {α : Type} {S : Cells → Prop} {x : M α} {a : α} {P : α → Prop} (e : x = Pure.pure a) (h : P a) : Tr S x P := by
  rw [e]; exact Tr.pure h
theorem Tr.bind {α β : Type} {S : Cells → Prop} {x : M α} {f : α → M β} {P : α → Prop} {Q : β → Prop} (h : Tr S x P) (k : ∀ a, P a → Tr S (f a) Q) : Tr S (x >>= f) Q := fun cs hs => by
  obtain ⟨a, cs1, e, hs1, p⟩ := h cs hs
  obtain ⟨b, cs2, e2, hs2, q⟩ := k a p cs1 hs1
  exact ⟨b, cs2, by rw [M.bind_ok e]; exact e2, hs2, q⟩
theorem Tr.mono {α : Type} {S : Cells → Prop} {x : M α} {P Q : α → Prop} (h : Tr S x P) (k : ∀ a, P a → Q a) : Tr S x Q := fun cs hs => by
  obtain ⟨a, cs1, e, hs1, p⟩ := h cs hs
  exact ⟨a, cs1, e, hs1, k a p⟩
/-- a loop: I before each turn -/
theorem forL_tr {S : Cells → Prop} {g : GF} {b : SF} {Q : Fl → Prop} (I : List D → Env → Prop) (step : ∀ x xs ρ, I (x :: xs) ρ → Tr S (g x ρ >>= b) fun f => match f with
    | .nx ρ' => I xs ρ'
    | .ct ρ' => I xs ρ'
    | .bk ρ' => Q (.nx ρ')
    | .rt d => Q (.rt d)) (stop : ∀ ρ, I [] ρ → Q (.nx ρ)) : ∀ (xs : List D) (ρ : Env), I xs ρ → Tr S (forL g b xs ρ) Q
  | [], ρ, h => Tr.pure (stop ρ h)
  | x :: xs, ρ, h => by
    have e : forL g b (x :: xs) ρ = (g x ρ >>= b) >>= fun f => match f with
        | .nx ρ2 => forL g b xs ρ2
        | .ct ρ2 => forL g b xs ρ2
        | .bk ρ2 => pure (.nx ρ2)
        | .rt d => pure (.rt d) := by
      rw [M.assoc']; rfl
    rw [e]
    refine Tr.bind (step x xs ρ h) fun f hf => ?_
    cases f with
    | nx ρ' => exact forL_tr I step stop xs ρ' hf
    | ct ρ' => exact forL_tr I step stop xs ρ' hf
    | bk ρ' => exact Tr.pure hf
    | rt d => exact Tr.pure hf
theorem whileL_tr {S : Cells → Prop} {t : TF} {b : SF} {Q : Fl → Prop} (I : Nat → Env → Prop) (step : ∀ n ρ, I n ρ → Tr S (t ρ) fun c => if c = true then Tr S (b ρ) (fun f => match f with
    | .nx ρ' => ∃ m, m < n ∧ I m ρ'
    | .ct ρ' => ∃ m, m < n ∧ I m ρ'
    | .bk ρ' => Q (.nx ρ')
    | .rt d => Q (.rt d)) else Q (.nx ρ)) : ∀ (k n : Nat) (ρ : Env), n < k → I n ρ → Tr S (whileL t b k ρ) Q
  | 0, _, _, hk, _ => absurd hk (Nat.not_lt_zero _)
  | k + 1, n, ρ, hk, h => by
    refine Tr.bind (step n ρ h) fun c hc => ?_
    cases c with
    | true =>
      rw [if_pos rfl] at hc ⊢
      refine Tr.bind hc fun f hf => ?_
      cases f with
      | nx ρ' => obtain ⟨m, hm, hi⟩ := hf; exact whileL_tr I step k m ρ' (by omega) hi
      | ct ρ' => obtain ⟨m, hm, hi⟩ := hf; exact whileL_tr I step k m ρ' (by omega) hi
      | bk ρ' => exact Tr.pure hf
      | rt d => exact Tr.pure hf
    | false =>
      rw [if_neg (fun z => nomatch z)] at hc ⊢
      exact Tr.pure hc
theorem Tr.seq {S : Cells → Prop} {a b : SF} {ρ : Env} {I : Env → Prop} {P : Fl → Prop} (h : Tr S (a ρ) fun f => ∃ ρ1, f = .nx ρ1 ∧ I ρ1) (k : ∀ ρ1, I ρ1 → Tr S (b ρ1) P) : Tr S (sSeq a b ρ) P := by
  rw [sSeq_eq]
  refine Tr.bind h ?_
  rintro f ⟨ρ1, rfl, hi⟩
  exact k ρ1 hi
theorem Tr.seqE {S : Cells → Prop} {a b : SF} {ρ ρ1 : Env} {P : Fl → Prop} (h : a ρ = Pure.pure (.nx ρ1)) (k : Tr S (b ρ1) P) : Tr S (sSeq a b ρ) P := by
  rw [sSeq_eq, h]; exact k
end RP
end

section
set_option Elab.async false
set_option linter.all false
set_option maxRecDepth 100000
set_option autoImplicit false
set_option maxHeartbeats 4000000
/-! printed by gen.py: the plain functions of the text, and that the program keeps them -/
namespace K82
open PySem PySem.Spec PyProof.Rows L2 RP
def topS (i : Nat) : Stmt := PySem.Challenge.pw_paperhall_k82_whole_rules_that_follow_or.main.body.getD i (.Pass ⟨0, 0, 0, 0⟩)
def FUEL : Nat := 1000000000
def gl : List (Str × D) := [(("HIGHEST" : Str), (.int 1000000000000)), (("LONGEST" : Str), (.int 40)), (("MOST" : Str), (.int 16)), (("DEEP" : Str), (.int 6)), (("NAME" : Str), (.int 8)), (("SMALL" : Str), (.str "abcdefghijklmnopqrstuvwxyz")), (("SIGNS" : Str), (.str "abcdefghijklmnopqrstuvwxyz0123456789")), (("KINDS" : Str), (.tup [(.str "null"), (.str "number"), (.str "text"), (.str "doc"), (.str "list"), (.str "truth")])), (("NAMES" : Str), (.int 8)), (("RULES" : Str), (.int 12)), (("ROWS" : Str), (.int 10))]
def fnl (c : Nat → List D → M D) : List (Str × (List D → M D)) := [(("is_whole" : Str), c 0), (("is_tuple_of" : Str), c 1), (("is_name" : Str), c 2), (("is_text_sign" : Str), c 3), (("fits_plain" : Str), c 4), (("is_knot" : Str), c 5), (("fits_fields" : Str), c 6), (("inner_of" : Str), c 7), (("fits_value" : Str), c 8), (("is_doc" : Str), c 9), (("kind_in" : Str), c 10), (("sign_of" : Str), c 11), (("compared" : Str), c 12), (("are_alike" : Str), c 13), (("fits_names" : Str), c 14), (("fits_some" : Str), c 15), (("fits_rule" : Str), c 16), (("fits_rules" : Str), c 17), (("fits_table" : Str), c 18), (("need_names" : Str), c 19), (("need_rules" : Str), c 20), (("need_rule" : Str), c 21), (("need_table" : Str), c 22), (("settled_by" : Str), c 23), (("is_settled" : Str), c 24), (("value_at" : Str), c 25), (("are_alike_at" : Str), c 26), (("breach_of" : Str), c 27), (("row_of" : Str), c 28), (("are_names" : Str), c 29), (("are_rules" : Str), c 30), (("settled" : Str), c 31), (("follows" : Str), c 32), (("proof" : Str), c 33), (("is_proof" : Str), c 34), (("against" : Str), c 35), (("breach" : Str), c 36), (("_law_cup" : Str), c 37), (("_law_roll" : Str), c 38), (("_law_some" : Str), c 39), (("_law_same" : Str), c 40), (("_law_names" : Str), c 41), (("_law_part" : Str), c 42), (("_law_rules" : Str), c 43), (("_law_settled" : Str), c 44), (("_law_doc_of" : Str), c 45), (("_law_values" : Str), c 46), (("_law_breach" : Str), c 47), (("_law_keeps" : Str), c 48), (("_law_proof" : Str), c 49), (("_law_is_proof" : Str), c 50), (("_law_odds_right" : Str), c 51), (("law" : Str), c 52)]
def tab (c : Nat → List D → M D) : Tab := ⟨gl, fnl c⟩
/-! 0 is_whole(value, low, high) : 0:value 1:low 2:high -/
def N_is_whole : List Str := ["value", "low", "high"]
def b_is_whole (c : Nat → List D → M D) : SF := sRet (eAndV (eIsin (eOpd 0) .int) (eAndV (eNotV (eIsin (eOpd 0) .bool)) (eChain leD leD (eOpd 1) (eOpd 0) (eOpd 2))))
theorem sc_is_whole : FnScope N_is_whole ["value", "low", "high"] (defScope (topS 12)) := ⟨rfl, rfl, rfl, by decide +kernel, rfl, by decide +kernel, by decide +kernel⟩
theorem d_is_whole (c : Nat → List D → M D) : SSs ⟨N_is_whole, defScope (topS 12), fun _ => true⟩ (tab c) (defBody (topS 12)) (b_is_whole c) := sss_one (ss_ret (se_and (se_isin .int (so_var 0)) (se_and (se_not (se_isin .bool (so_var 0))) (se_one (se_lele (so_var 1) (so_var 0) (so_var 2))))))
/-! 1 is_tuple_of(value, low, high) : 0:value 1:low 2:high -/
def N_is_tuple_of : List Str := ["value", "low", "high"]
def b_is_tuple_of (c : Nat → List D → M D) : SF := sRet (eAndV (eIsin (eOpd 0) .tuple) (eChain leD leD (eOpd 1) (eCall lenD (aCons (eOpd 0) aNil)) (eOpd 2)))
theorem sc_is_tuple_of : FnScope N_is_tuple_of ["value", "low", "high"] (defScope (topS 13)) := ⟨rfl, rfl, rfl, by decide +kernel, rfl, by decide +kernel, by decide +kernel⟩
theorem d_is_tuple_of (c : Nat → List D → M D) : SSs ⟨N_is_tuple_of, defScope (topS 13), fun _ => true⟩ (tab c) (defBody (topS 13)) (b_is_tuple_of c) := sss_one (ss_ret (se_and (se_isin .tuple (so_var 0)) (se_one (se_lele (so_var 1) ((se_len (so_var 0)).so) (so_var 2)))))
/-! 2 is_name(value) : 0:value 1:sign -/
def N_is_name : List Str := ["value", "sign"]
def b_is_name (c : Nat → List D → M D) : SF := sSeq (sIf (tOr (tNot (tVal (eIsin (eOpd 0) .str))) (tOr (tNot (tVal (eChain leD leD (eLit (.int 1)) (eCall lenD (aCons (eOpd 0) aNil)) (eLit (.int 8))))) (tVal (eOp2 notInD (eOp2 ixD (eOpd 0) (eLit (.int 0))) (eLit (.str "abcdefghijklmnopqrstuvwxyz")))))) (sRet (eLit (.bl false))) (sNil)) (sRet (eCall allD (aCons (eLst (cComp [1] (iAny (eOpd 0)) (gName 1) (tYes) (eOp2 inD (eOpd 1) (eLit (.str "abcdefghijklmnopqrstuvwxyz0123456789"))))) aNil)))
theorem sc_is_name : FnScope N_is_name ["value"] (defScope (topS 14)) := ⟨rfl, rfl, rfl, by decide +kernel, rfl, by decide +kernel, by decide +kernel⟩
theorem d_is_name (c : Nat → List D → M D) : SSs ⟨N_is_name, defScope (topS 14), fun _ => true⟩ (tab c) (defBody (topS 14)) (b_is_name c) := sss_cons (ss_if (st_w (sw_or (st_not (st_val (se_isin .str (so_var 0)))) (sw_or (st_not (st_lele ((se_int).so) ((se_len (so_var 0)).so) ((se_gl 4).so))) (sw_or1 (st_notIn ((se_ix (so_var 0) ((se_int).so)).so) ((se_gl 5).so)))))) (sss_one (ss_ret (se_bl))) (sss_nil)) (sss_one (ss_ret (se_all (((sfr_comp [("sign", 1)] (sic_any (so_var 0)) (sg_name 1) (sts_nil) (se_in (so_var 1) ((se_gl 6).so))).se).so))))
/-! 3 is_text_sign(sign) : 0:sign -/
def N_is_text_sign : List Str := ["sign"]
def b_is_text_sign (c : Nat → List D → M D) : SF := sRet (eAndV (eChain leD leD (eLit (.str " ")) (eOpd 0) (eLit (.str "~"))) (eOp2 notInD (eCall ordD (aCons (eOpd 0) aNil)) (eTup (aCons (eLit (.int 37)) (aCons (eLit (.int 39)) (aNil))))))
theorem sc_is_text_sign : FnScope N_is_text_sign ["sign"] (defScope (topS 15)) := ⟨rfl, rfl, rfl, by decide +kernel, rfl, by decide +kernel, by decide +kernel⟩
theorem d_is_text_sign (c : Nat → List D → M D) : SSs ⟨N_is_text_sign, defScope (topS 15), fun _ => true⟩ (tab c) (defBody (topS 15)) (b_is_text_sign c) := sss_one (ss_ret (se_and (se_lele ((se_str).so) (so_var 0) ((se_str).so)) (se_one (se_notIn ((se_ord (so_var 0)).so) ((se_tup (sa_cons (se_int) (sa_cons (se_int) (sa_nil)))).so)))))
/-! 4 fits_plain(value) : 0:value 1:sign -/
def N_fits_plain : List Str := ["value", "sign"]
def b_fits_plain (c : Nat → List D → M D) : SF := sSeq (sIf (tOr (tVal (eOp1 isNoneD (eOpd 0))) (tVal (eIsin (eOpd 0) .bool))) (sRet (eLit (.bl true))) (sNil)) (sSeq (sIf (tVal (eIsin (eOpd 0) .str)) (sRet (eAndV (eOp2 leD (eCall lenD (aCons (eOpd 0) aNil)) (eLit (.int 40))) (eCall allD (aCons (eLst (cComp [1] (iAny (eOpd 0)) (gName 1) (tYes) (eCall (c 3) (aCons (eVar 1) (aNil))))) aNil)))) (sNil)) (sRet (eCall (c 0) (aCons (eVar 0) (aCons (eOp1 negD (eLit (.int 1000000000000))) (aCons (eLit (.int 1000000000000)) (aNil)))))))
theorem sc_fits_plain : FnScope N_fits_plain ["value"] (defScope (topS 16)) := ⟨rfl, rfl, rfl, by decide +kernel, rfl, by decide +kernel, by decide +kernel⟩
theorem d_fits_plain (c : Nat → List D → M D) : SSs ⟨N_fits_plain, defScope (topS 16), fun _ => true⟩ (tab c) (defBody (topS 16)) (b_fits_plain c) := sss_cons (ss_if (st_w (sw_or (st_isN (so_var 0)) (sw_or1 (st_val (se_isin .bool (so_var 0)))))) (sss_one (ss_ret (se_bl))) (sss_nil)) (sss_cons (ss_if (st_val (se_isin .str (so_var 0))) (sss_one (ss_ret (se_and (se_le ((se_len (so_var 0)).so) ((se_gl 1).so)) (se_one (se_all (((sfr_comp [("sign", 1)] (sic_any (so_var 0)) (sg_name 1) (sts_nil) (se_call 3 (sa_cons (se_var 1) (sa_nil)))).se).so)))))) (sss_nil)) (sss_one (ss_ret (se_call 0 (sa_cons (se_var 0) (sa_cons (se_neg ((se_gl 0).so)) (sa_cons (se_gl 0) (sa_nil))))))))
/-! 5 is_knot(value) : 0:value -/
def N_is_knot : List Str := ["value"]
def b_is_knot (c : Nat → List D → M D) : SF := sSeq (sIf (tOr (tNot (tVal (eCall (c 1) (aCons (eVar 0) (aCons (eLit (.int 2)) (aCons (eLit (.int 2)) (aNil))))))) (tOr (tNot (tVal (eIsin (eOp2 ixD (eOpd 0) (eLit (.int 0))) .str))) (tVal (eOp2 notInD (eOp2 ixD (eOpd 0) (eLit (.int 0))) (eTup (aCons (eLit (.str "list")) (aCons (eLit (.str "doc")) (aNil)))))))) (sRet (eLit (.bl false))) (sNil)) (sRet (eCall (c 1) (aCons (eOp2 ixD (eOpd 0) (eLit (.int 1))) (aCons (eLit (.int 0)) (aCons (eLit (.int 16)) (aNil))))))
theorem sc_is_knot : FnScope N_is_knot ["value"] (defScope (topS 17)) := ⟨rfl, rfl, rfl, by decide +kernel, rfl, by decide +kernel, by decide +kernel⟩
theorem d_is_knot (c : Nat → List D → M D) : SSs ⟨N_is_knot, defScope (topS 17), fun _ => true⟩ (tab c) (defBody (topS 17)) (b_is_knot c) := sss_cons (ss_if (st_w (sw_or (st_not (st_val (se_call 1 (sa_cons (se_var 0) (sa_cons (se_int) (sa_cons (se_int) (sa_nil))))))) (sw_or (st_not (st_val (se_isin .str ((se_ix (so_var 0) ((se_int).so)).so)))) (sw_or1 (st_notIn ((se_ix (so_var 0) ((se_int).so)).so) ((se_tup (sa_cons (se_str) (sa_cons (se_str) (sa_nil)))).so)))))) (sss_one (ss_ret (se_bl))) (sss_nil)) (sss_one (ss_ret (se_call 1 (sa_cons (se_ix (so_var 0) ((se_int).so)) (sa_cons (se_int) (sa_cons (se_gl 2) (sa_nil)))))))
/-! 6 fits_fields(fields) : 0:fields 1:names 2:one -/
def N_fits_fields : List Str := ["fields", "names", "one"]
def b_fits_fields (c : Nat → List D → M D) : SF := sSeq (sIf (tNot (tVal (eCall allD (aCons (eLst (cComp [2] (iAny (eOpd 0)) (gName 2) (tYes) (eAndV (eCall (c 1) (aCons (eVar 2) (aCons (eLit (.int 2)) (aCons (eLit (.int 2)) (aNil))))) (eCall (c 2) (aCons (eOp2 ixD (eOpd 2) (eLit (.int 0))) (aNil)))))) aNil)))) (sRet (eLit (.bl false))) (sNil)) (sSeq (sSet 1 (xVal (eLst (cComp [2] (iAny (eOpd 0)) (gName 2) (tYes) (eOp2 ixD (eOpd 2) (eLit (.int 0))))))) (sRet (eOp2 eqD (eCall lenSetD (aCons (eOpd 1) aNil)) (eCall lenD (aCons (eOpd 1) aNil)))))
theorem sc_fits_fields : FnScope N_fits_fields ["fields"] (defScope (topS 18)) := ⟨rfl, rfl, rfl, by decide +kernel, rfl, by decide +kernel, by decide +kernel⟩
theorem d_fits_fields (c : Nat → List D → M D) : SSs ⟨N_fits_fields, defScope (topS 18), fun _ => true⟩ (tab c) (defBody (topS 18)) (b_fits_fields c) := sss_cons (ss_if (st_not (st_val (se_all (((sfr_comp [("one", 2)] (sic_any (so_var 0)) (sg_name 2) (sts_nil) (se_and (se_call 1 (sa_cons (se_var 2) (sa_cons (se_int) (sa_cons (se_int) (sa_nil))))) (se_one (se_call 2 (sa_cons (se_ix (so_var 2) ((se_int).so)) (sa_nil)))))).se).so)))) (sss_one (ss_ret (se_bl))) (sss_nil)) (sss_cons (ss_setCv 1 [("one", 2)] (sic_any (so_var 0)) (sg_name 2) (sts_nil) (se_ix (so_var 2) ((se_int).so))) (sss_one (ss_ret (se_eq ((se_lenSet (so_var 1)).so) ((se_len (so_var 1)).so)))))
/-! 7 inner_of(value) : 0:value 1:one -/
def N_inner_of : List Str := ["value", "one"]
def b_inner_of (c : Nat → List D → M D) : SF := sRet (eIf (tVal (eOp2 eqD (eOp2 ixD (eOpd 0) (eLit (.int 0))) (eLit (.str "doc")))) (eLst (cComp [1] (iAny (eOp2 ixD (eOpd 0) (eLit (.int 1)))) (gName 1) (tYes) (eOp2 ixD (eOpd 1) (eLit (.int 1))))) (eLst (lCall listD (aCons (eOp2 ixD (eOpd 0) (eLit (.int 1))) aNil))))
theorem sc_inner_of : FnScope N_inner_of ["value"] (defScope (topS 19)) := ⟨rfl, rfl, rfl, by decide +kernel, rfl, by decide +kernel, by decide +kernel⟩
theorem d_inner_of (c : Nat → List D → M D) : SSs ⟨N_inner_of, defScope (topS 19), fun _ => true⟩ (tab c) (defBody (topS 19)) (b_inner_of c) := sss_one (ss_ret (se_if (st_eq ((se_ix (so_var 0) ((se_int).so)).so) ((se_str).so)) ((sfr_comp [("one", 1)] (sic_any ((se_ix (so_var 0) ((se_int).so)).so)) (sg_name 1) (sts_nil) (se_ix (so_var 1) ((se_int).so))).se) ((sfr_list ((se_ix (so_var 0) ((se_int).so)).so)).se)))
/-! 8 fits_value(value) : 0:value 1:line 2:one 3:deep 4:inner -/
def N_fits_value : List Str := ["value", "line", "one", "deep", "inner"]
def b_fits_value (c : Nat → List D → M D) : SF := sSeq (sSet 1 (xOwn (aCons (eTup (aCons (eVar 0) (aCons (eLit (.int 1)) (aNil)))) (aNil)))) (sSeq (sWhile FUEL (tVal (eOp2 neD (eOpd 1) (eLst (aNil)))) (sSeq (sPop 1 (gTup [gName 2, gName 3])) (sIf (tNot (tVal (eCall (c 4) (aCons (eVar 2) (aNil))))) (sSeq (sIf (tOr (tVal (eOp2 gtD (eOpd 3) (eLit (.int 6)))) (tOr (tNot (tVal (eCall (c 5) (aCons (eVar 2) (aNil))))) (tAnd (tVal (eOp2 eqD (eOp2 ixD (eOpd 2) (eLit (.int 0))) (eLit (.str "doc")))) (tNot (tVal (eCall (c 6) (aCons (eOp2 ixD (eOpd 2) (eLit (.int 1))) (aNil)))))))) (sRet (eLit (.bl false))) (sNil)) (sExt 1 (eLst (cComp [4] (iAny (eCall (c 7) (aCons (eVar 2) (aNil)))) (gName 4) (tYes) (eTup (aCons (eVar 4) (aCons (eOp2 addD (eOpd 3) (eLit (.int 1))) (aNil)))))))) (sNil)))) (sRet (eLit (.bl true))))
theorem sc_fits_value : FnScope N_fits_value ["value"] (defScope (topS 20)) := ⟨rfl, rfl, rfl, by decide +kernel, rfl, by decide +kernel, by decide +kernel⟩
theorem d_fits_value (c : Nat → List D → M D) : SSs ⟨N_fits_value, defScope (topS 20), fun _ => true⟩ (tab c) (defBody (topS 20)) (b_fits_value c) := sss_cons (ss_set 1 ((sfr_lst (sa_cons (se_tup (sa_cons (se_var 0) (sa_cons (se_int) (sa_nil)))) (sa_nil))).sx)) (sss_cons (ss_while FUEL (st_ne (so_var 1) (((sfr_lst (sa_nil)).se).so)) (sss_cons (ss_pop (vs := [2, 3]) 1 (sg_tup (sgs_cons (sg_name 2) (sgs_cons (sg_name 3) (sgs_nil))))) (sss_one (ss_if (st_not (st_val (se_call 4 (sa_cons (se_var 2) (sa_nil))))) (sss_cons (ss_if (st_w (sw_or (st_gt (so_var 3) ((se_gl 3).so)) (sw_or (st_not (st_val (se_call 5 (sa_cons (se_var 2) (sa_nil))))) (sw_or1 (st_w (sw_and (st_eq ((se_ix (so_var 2) ((se_int).so)).so) ((se_str).so)) (sw_and1 (st_not (st_val (se_call 6 (sa_cons (se_ix (so_var 2) ((se_int).so)) (sa_nil)))))))))))) (sss_one (ss_ret (se_bl))) (sss_nil)) (sss_one (ss_ext 1 (((sfr_comp [("inner", 4)] (sic_any ((se_call 7 (sa_cons (se_var 2) (sa_nil))).so)) (sg_name 4) (sts_nil) (se_tup (sa_cons (se_var 4) (sa_cons (se_add (so_var 3) ((se_int).so)) (sa_nil))))).se).so)))) (sss_nil))))) (sss_one (ss_ret (se_bl))))
/-! 9 is_doc(value) : 0:value -/
def N_is_doc : List Str := ["value"]
def b_is_doc (c : Nat → List D → M D) : SF := sRet (eAndV (eIsin (eOpd 0) .tuple) (eOp2 eqD (eOp2 ixD (eOpd 0) (eLit (.int 0))) (eLit (.str "doc"))))
theorem sc_is_doc : FnScope N_is_doc ["value"] (defScope (topS 21)) := ⟨rfl, rfl, rfl, by decide +kernel, rfl, by decide +kernel, by decide +kernel⟩
theorem d_is_doc (c : Nat → List D → M D) : SSs ⟨N_is_doc, defScope (topS 21), fun _ => true⟩ (tab c) (defBody (topS 21)) (b_is_doc c) := sss_one (ss_ret (se_and (se_isin .tuple (so_var 0)) (se_one (se_eq ((se_ix (so_var 0) ((se_int).so)).so) ((se_str).so)))))
/-! 10 kind_in(value) : 0:value -/
def N_kind_in : List Str := ["value"]
def b_kind_in (c : Nat → List D → M D) : SF := sSeq (sIf (tVal (eOp1 isNoneD (eOpd 0))) (sRet (eLit (.str "null"))) (sNil)) (sSeq (sIf (tVal (eIsin (eOpd 0) .bool)) (sRet (eLit (.str "truth"))) (sNil)) (sSeq (sIf (tVal (eIsin (eOpd 0) .int)) (sRet (eLit (.str "number"))) (sNil)) (sRet (eIf (tVal (eIsin (eOpd 0) .str)) (eLit (.str "text")) (eOp2 ixD (eOpd 0) (eLit (.int 0)))))))
theorem sc_kind_in : FnScope N_kind_in ["value"] (defScope (topS 22)) := ⟨rfl, rfl, rfl, by decide +kernel, rfl, by decide +kernel, by decide +kernel⟩
theorem d_kind_in (c : Nat → List D → M D) : SSs ⟨N_kind_in, defScope (topS 22), fun _ => true⟩ (tab c) (defBody (topS 22)) (b_kind_in c) := sss_cons (ss_if (st_isN (so_var 0)) (sss_one (ss_ret (se_str))) (sss_nil)) (sss_cons (ss_if (st_val (se_isin .bool (so_var 0))) (sss_one (ss_ret (se_str))) (sss_nil)) (sss_cons (ss_if (st_val (se_isin .int (so_var 0))) (sss_one (ss_ret (se_str))) (sss_nil)) (sss_one (ss_ret (se_if (st_val (se_isin .str (so_var 0))) (se_str) (se_ix (so_var 0) ((se_int).so)))))))
/-! 11 sign_of(one, other) : 0:one 1:other -/
def N_sign_of : List Str := ["one", "other"]
def b_sign_of (c : Nat → List D → M D) : SF := sRet (eIf (tVal (eOp2 ltD (eOpd 0) (eOpd 1))) (eOp1 negD (eLit (.int 1))) (eIf (tVal (eOp2 ltD (eOpd 1) (eOpd 0))) (eLit (.int 1)) (eLit (.int 0))))
theorem sc_sign_of : FnScope N_sign_of ["one", "other"] (defScope (topS 24)) := ⟨rfl, rfl, rfl, by decide +kernel, rfl, by decide +kernel, by decide +kernel⟩
theorem d_sign_of (c : Nat → List D → M D) : SSs ⟨N_sign_of, defScope (topS 24), fun _ => true⟩ (tab c) (defBody (topS 24)) (b_sign_of c) := sss_one (ss_ret (se_if (st_lt (so_var 0) (so_var 1)) (se_neg ((se_int).so)) (se_if (st_lt (so_var 1) (so_var 0)) (se_int) (se_int))))
/-! 12 compared(one, other) : 0:one 1:other 2:kind 3:ranks 4:mine 5:yours 6:names 7:found -/
def N_compared : List Str := ["one", "other", "kind", "ranks", "mine", "yours", "names", "found"]
def b_compared (c : Nat → List D → M D) : SF := sSeq (sSet 2 (xVal (eCall (c 10) (aCons (eVar 0) (aNil))))) (sSeq (sSet 3 (xVal (eCall (c 11) (aCons (eOp2 idxD (eLit (.tup [(.str "null"), (.str "number"), (.str "text"), (.str "doc"), (.str "list"), (.str "truth")])) (eOpd 2)) (aCons (eOp2 idxD (eLit (.tup [(.str "null"), (.str "number"), (.str "text"), (.str "doc"), (.str "list"), (.str "truth")])) (eCall (c 10) (aCons (eVar 1) (aNil)))) (aNil)))))) (sSeq (sIf (tOr (tVal (eOp2 neD (eOpd 3) (eLit (.int 0)))) (tVal (eOp2 eqD (eOpd 2) (eLit (.str "null"))))) (sRet (eVar 3)) (sNil)) (sSeq (sIf (tVal (eOp2 inD (eOpd 2) (eTup (aCons (eLit (.str "number")) (aCons (eLit (.str "text")) (aCons (eLit (.str "truth")) (aNil))))))) (sRet (eCall (c 11) (aCons (eVar 0) (aCons (eVar 1) (aNil))))) (sNil)) (sSeq (sFor (lCall zipD (aCons (eOp2 ixD (eOpd 0) (eLit (.int 1))) (aCons (eOp2 ixD (eOpd 1) (eLit (.int 1))) aNil))) (gTup [gName 4, gName 5]) (sSeq (sIf (tVal (eOp2 eqD (eOpd 2) (eLit (.str "doc")))) (sSeq (sSet 6 (xVal (eCall (c 11) (aCons (eOp2 ixD (eOpd 4) (eLit (.int 0))) (aCons (eOp2 ixD (eOpd 5) (eLit (.int 0))) (aNil)))))) (sSeq (sIf (tVal (eOp2 neD (eOpd 6) (eLit (.int 0)))) (sRet (eVar 6)) (sNil)) (sPar 4 5 (xVal (eOp2 ixD (eOpd 4) (eLit (.int 1)))) (xVal (eOp2 ixD (eOpd 5) (eLit (.int 1))))))) (sNil)) (sSeq (sSet 7 (xVal (eCall (c 12) (aCons (eVar 4) (aCons (eVar 5) (aNil)))))) (sIf (tVal (eOp2 neD (eOpd 7) (eLit (.int 0)))) (sRet (eVar 7)) (sNil))))) (sRet (eCall (c 11) (aCons (eCall lenD (aCons (eOp2 ixD (eOpd 0) (eLit (.int 1))) aNil)) (aCons (eCall lenD (aCons (eOp2 ixD (eOpd 1) (eLit (.int 1))) aNil)) (aNil)))))))))
theorem sc_compared : FnScope N_compared ["one", "other"] (defScope (topS 25)) := ⟨rfl, rfl, rfl, by decide +kernel, rfl, by decide +kernel, by decide +kernel⟩
theorem d_compared (c : Nat → List D → M D) : SSs ⟨N_compared, defScope (topS 25), fun _ => true⟩ (tab c) (defBody (topS 25)) (b_compared c) := sss_cons (ss_set 2 ((se_call 10 (sa_cons (se_var 0) (sa_nil))).sx)) (sss_cons (ss_set 3 ((se_call 11 (sa_cons (se_gidx 7 (hb := so_var 2)) (sa_cons (se_gidx 7 (hb := (se_call 10 (sa_cons (se_var 1) (sa_nil))).so)) (sa_nil)))).sx)) (sss_cons (ss_if (st_w (sw_or (st_ne (so_var 3) ((se_int).so)) (sw_or1 (st_eq (so_var 2) ((se_str).so))))) (sss_one (ss_ret (se_var 3))) (sss_nil)) (sss_cons (ss_if (st_in (so_var 2) ((se_tup (sa_cons (se_str) (sa_cons (se_str) (sa_cons (se_str) (sa_nil))))).so)) (sss_one (ss_ret (se_call 11 (sa_cons (se_var 0) (sa_cons (se_var 1) (sa_nil)))))) (sss_nil)) (sss_cons (ss_for (vs := [4, 5]) (si_zip (se_ix (so_var 0) ((se_int).so)) (se_ix (so_var 1) ((se_int).so))) (sg_tup (sgs_cons (sg_name 4) (sgs_cons (sg_name 5) (sgs_nil)))) (sss_cons (ss_if (st_eq (so_var 2) ((se_str).so)) (sss_cons (ss_set 6 ((se_call 11 (sa_cons (se_ix (so_var 4) ((se_int).so)) (sa_cons (se_ix (so_var 5) ((se_int).so)) (sa_nil)))).sx)) (sss_cons (ss_if (st_ne (so_var 6) ((se_int).so)) (sss_one (ss_ret (se_var 6))) (sss_nil)) (sss_one (ss_par 4 5 ((se_ix (so_var 4) ((se_int).so)).sx) ((se_ix (so_var 5) ((se_int).so)).sx))))) (sss_nil)) (sss_cons (ss_set 7 ((se_call 12 (sa_cons (se_var 4) (sa_cons (se_var 5) (sa_nil)))).sx)) (sss_one (ss_if (st_ne (so_var 7) ((se_int).so)) (sss_one (ss_ret (se_var 7))) (sss_nil)))))) (sss_one (ss_ret (se_call 11 (sa_cons (se_len ((se_ix (so_var 0) ((se_int).so)).so)) (sa_cons (se_len ((se_ix (so_var 1) ((se_int).so)).so)) (sa_nil))))))))))
/-! 13 are_alike(one, other) : 0:one 1:other -/
def N_are_alike : List Str := ["one", "other"]
def b_are_alike (c : Nat → List D → M D) : SF := sRet (eOp2 eqD (eCall (c 12) (aCons (eVar 0) (aCons (eVar 1) (aNil)))) (eLit (.int 0)))
theorem sc_are_alike : FnScope N_are_alike ["one", "other"] (defScope (topS 26)) := ⟨rfl, rfl, rfl, by decide +kernel, rfl, by decide +kernel, by decide +kernel⟩
theorem d_are_alike (c : Nat → List D → M D) : SSs ⟨N_are_alike, defScope (topS 26), fun _ => true⟩ (tab c) (defBody (topS 26)) (b_are_alike c) := sss_one (ss_ret (se_eq ((se_call 12 (sa_cons (se_var 0) (sa_cons (se_var 1) (sa_nil)))).so) ((se_int).so)))
/-! 14 fits_names(value, least) : 0:value 1:least 2:one 3:other -/
def N_fits_names : List Str := ["value", "least", "one", "other"]
def b_fits_names (c : Nat → List D → M D) : SF := sSeq (sIf (tOr (tNot (tVal (eCall (c 1) (aCons (eVar 0) (aCons (eVar 1) (aCons (eLit (.int 8)) (aNil))))))) (tNot (tVal (eCall allD (aCons (eLst (cComp [2] (iAny (eOpd 0)) (gName 2) (tYes) (eCall (c 2) (aCons (eVar 2) (aNil))))) aNil))))) (sRet (eLit (.bl false))) (sNil)) (sRet (eCall allD (aCons (eLst (cComp [2, 3] (lCall zipD (aCons (eVar 0) (aCons (eSlice (eOpd 0) (pSome (eLit (.int 1))) (pNone)) aNil))) (gTup [gName 2, gName 3]) (tYes) (eOp2 ltD (eOpd 2) (eOpd 3)))) aNil)))
theorem sc_fits_names : FnScope N_fits_names ["value", "least"] (defScope (topS 31)) := ⟨rfl, rfl, rfl, by decide +kernel, rfl, by decide +kernel, by decide +kernel⟩
theorem d_fits_names (c : Nat → List D → M D) : SSs ⟨N_fits_names, defScope (topS 31), fun _ => true⟩ (tab c) (defBody (topS 31)) (b_fits_names c) := sss_cons (ss_if (st_w (sw_or (st_not (st_val (se_call 1 (sa_cons (se_var 0) (sa_cons (se_var 1) (sa_cons (se_gl 8) (sa_nil))))))) (sw_or1 (st_not (st_val (se_all (((sfr_comp [("one", 2)] (sic_any (so_var 0)) (sg_name 2) (sts_nil) (se_call 2 (sa_cons (se_var 2) (sa_nil)))).se).so))))))) (sss_one (ss_ret (se_bl))) (sss_nil)) (sss_one (ss_ret (se_all (((sfr_comp [("one", 2), ("other", 3)] ((si_zip (se_var 0) (se_slice (so_var 0) (spo_some ((se_int).so)) (spo_none))).toC) (sg_tup (sgs_cons (sg_name 2) (sgs_cons (sg_name 3) (sgs_nil)))) (sts_nil) (se_lt (so_var 2) (so_var 3))).se).so))))
/-! 15 fits_some(names, value, least) : 0:names 1:value 2:least 3:one -/
def N_fits_some : List Str := ["names", "value", "least", "one"]
def b_fits_some (c : Nat → List D → M D) : SF := sRet (eAndV (eCall (c 14) (aCons (eVar 1) (aCons (eVar 2) (aNil)))) (eCall allD (aCons (eLst (cComp [3] (iAny (eOpd 1)) (gName 3) (tYes) (eOp2 inD (eOpd 3) (eOpd 0)))) aNil)))
theorem sc_fits_some : FnScope N_fits_some ["names", "value", "least"] (defScope (topS 32)) := ⟨rfl, rfl, rfl, by decide +kernel, rfl, by decide +kernel, by decide +kernel⟩
theorem d_fits_some (c : Nat → List D → M D) : SSs ⟨N_fits_some, defScope (topS 32), fun _ => true⟩ (tab c) (defBody (topS 32)) (b_fits_some c) := sss_one (ss_ret (se_and (se_call 14 (sa_cons (se_var 1) (sa_cons (se_var 2) (sa_nil)))) (se_one (se_all (((sfr_comp [("one", 3)] (sic_any (so_var 1)) (sg_name 3) (sts_nil) (se_in (so_var 3) (so_var 0))).se).so)))))
/-! 16 fits_rule(names, value) : 0:names 1:value -/
def N_fits_rule : List Str := ["names", "value"]
def b_fits_rule (c : Nat → List D → M D) : SF := sRet (eAndV (eCall (c 1) (aCons (eVar 1) (aCons (eLit (.int 2)) (aCons (eLit (.int 2)) (aNil))))) (eAndV (eCall (c 15) (aCons (eVar 0) (aCons (eOp2 ixD (eOpd 1) (eLit (.int 0))) (aCons (eLit (.int 0)) (aNil))))) (eCall (c 15) (aCons (eVar 0) (aCons (eOp2 ixD (eOpd 1) (eLit (.int 1))) (aCons (eLit (.int 1)) (aNil)))))))
theorem sc_fits_rule : FnScope N_fits_rule ["names", "value"] (defScope (topS 33)) := ⟨rfl, rfl, rfl, by decide +kernel, rfl, by decide +kernel, by decide +kernel⟩
theorem d_fits_rule (c : Nat → List D → M D) : SSs ⟨N_fits_rule, defScope (topS 33), fun _ => true⟩ (tab c) (defBody (topS 33)) (b_fits_rule c) := sss_one (ss_ret (se_and (se_call 1 (sa_cons (se_var 1) (sa_cons (se_int) (sa_cons (se_int) (sa_nil))))) (se_and (se_call 15 (sa_cons (se_var 0) (sa_cons (se_ix (so_var 1) ((se_int).so)) (sa_cons (se_int) (sa_nil))))) (se_one (se_call 15 (sa_cons (se_var 0) (sa_cons (se_ix (so_var 1) ((se_int).so)) (sa_cons (se_int) (sa_nil)))))))))
/-! 17 fits_rules(names, value) : 0:names 1:value 2:rule -/
def N_fits_rules : List Str := ["names", "value", "rule"]
def b_fits_rules (c : Nat → List D → M D) : SF := sRet (eAndV (eCall (c 1) (aCons (eVar 1) (aCons (eLit (.int 0)) (aCons (eLit (.int 12)) (aNil))))) (eCall allD (aCons (eLst (cComp [2] (iAny (eOpd 1)) (gName 2) (tYes) (eCall (c 16) (aCons (eVar 0) (aCons (eVar 2) (aNil)))))) aNil)))
theorem sc_fits_rules : FnScope N_fits_rules ["names", "value"] (defScope (topS 34)) := ⟨rfl, rfl, rfl, by decide +kernel, rfl, by decide +kernel, by decide +kernel⟩
theorem d_fits_rules (c : Nat → List D → M D) : SSs ⟨N_fits_rules, defScope (topS 34), fun _ => true⟩ (tab c) (defBody (topS 34)) (b_fits_rules c) := sss_one (ss_ret (se_and (se_call 1 (sa_cons (se_var 1) (sa_cons (se_int) (sa_cons (se_gl 9) (sa_nil))))) (se_one (se_all (((sfr_comp [("rule", 2)] (sic_any (so_var 1)) (sg_name 2) (sts_nil) (se_call 16 (sa_cons (se_var 0) (sa_cons (se_var 2) (sa_nil))))).se).so)))))
/-! 18 fits_table(names, value) : 0:names 1:value 2:one 3:field -/
def N_fits_table : List Str := ["names", "value", "one", "field"]
def b_fits_table (c : Nat → List D → M D) : SF := sSeq (sIf (tOr (tNot (tVal (eCall (c 1) (aCons (eVar 1) (aCons (eLit (.int 0)) (aCons (eLit (.int 10)) (aNil))))))) (tNot (tVal (eCall allD (aCons (eLst (cComp [2] (iAny (eOpd 1)) (gName 2) (tYes) (eAndV (eCall (c 8) (aCons (eVar 2) (aNil))) (eCall (c 9) (aCons (eVar 2) (aNil)))))) aNil))))) (sRet (eLit (.bl false))) (sNil)) (sRet (eCall allD (aCons (eLst (cComp [2] (iAny (eOpd 1)) (gName 2) (tYes) (eOp2 eqD (eCall tupleD (aCons (eLst (cComp [3] (iAny (eOp2 ixD (eOpd 2) (eLit (.int 1)))) (gName 3) (tYes) (eOp2 ixD (eOpd 3) (eLit (.int 0))))) aNil)) (eOpd 0)))) aNil)))
theorem sc_fits_table : FnScope N_fits_table ["names", "value"] (defScope (topS 35)) := ⟨rfl, rfl, rfl, by decide +kernel, rfl, by decide +kernel, by decide +kernel⟩
theorem d_fits_table (c : Nat → List D → M D) : SSs ⟨N_fits_table, defScope (topS 35), fun _ => true⟩ (tab c) (defBody (topS 35)) (b_fits_table c) := sss_cons (ss_if (st_w (sw_or (st_not (st_val (se_call 1 (sa_cons (se_var 1) (sa_cons (se_int) (sa_cons (se_gl 10) (sa_nil))))))) (sw_or1 (st_not (st_val (se_all (((sfr_comp [("one", 2)] (sic_any (so_var 1)) (sg_name 2) (sts_nil) (se_and (se_call 8 (sa_cons (se_var 2) (sa_nil))) (se_one (se_call 9 (sa_cons (se_var 2) (sa_nil)))))).se).so))))))) (sss_one (ss_ret (se_bl))) (sss_nil)) (sss_one (ss_ret (se_all (((sfr_comp [("one", 2)] (sic_any (so_var 1)) (sg_name 2) (sts_nil) (se_eq ((se_tuple (((sfr_comp [("field", 3)] (sic_any ((se_ix (so_var 2) ((se_int).so)).so)) (sg_name 3) (sts_nil) (se_ix (so_var 3) ((se_int).so))).se).so)).so) (so_var 0))).se).so))))
/-! 19 need_names(names) : 0:names -/
def N_need_names : List Str := ["names"]
def b_need_names (c : Nat → List D → M D) : SF := sIf (tNot (tVal (eCall (c 14) (aCons (eVar 0) (aCons (eLit (.int 1)) (aNil)))))) (sNever) (sNil)
theorem sc_need_names : FnScope N_need_names ["names"] (defScope (topS 36)) := ⟨rfl, rfl, rfl, by decide +kernel, rfl, by decide +kernel, by decide +kernel⟩
theorem d_need_names (c : Nat → List D → M D) : SSs ⟨N_need_names, defScope (topS 36), fun _ => true⟩ (tab c) (defBody (topS 36)) (b_need_names c) := sss_one (ss_if (st_not (st_val (se_call 14 (sa_cons (se_var 0) (sa_cons (se_int) (sa_nil)))))) (sss_one (ss_never)) (sss_nil))
/-! 20 need_rules(names, rules) : 0:names 1:rules -/
def N_need_rules : List Str := ["names", "rules"]
def b_need_rules (c : Nat → List D → M D) : SF := sSeq (sExpr (eCall (c 19) (aCons (eVar 0) (aNil)))) (sIf (tNot (tVal (eCall (c 17) (aCons (eVar 0) (aCons (eVar 1) (aNil)))))) (sNever) (sNil))
theorem sc_need_rules : FnScope N_need_rules ["names", "rules"] (defScope (topS 37)) := ⟨rfl, rfl, rfl, by decide +kernel, rfl, by decide +kernel, by decide +kernel⟩
theorem d_need_rules (c : Nat → List D → M D) : SSs ⟨N_need_rules, defScope (topS 37), fun _ => true⟩ (tab c) (defBody (topS 37)) (b_need_rules c) := sss_cons (ss_expr (se_call 19 (sa_cons (se_var 0) (sa_nil)))) (sss_one (ss_if (st_not (st_val (se_call 17 (sa_cons (se_var 0) (sa_cons (se_var 1) (sa_nil)))))) (sss_one (ss_never)) (sss_nil)))
/-! 21 need_rule(names, rules, rule) : 0:names 1:rules 2:rule -/
def N_need_rule : List Str := ["names", "rules", "rule"]
def b_need_rule (c : Nat → List D → M D) : SF := sSeq (sExpr (eCall (c 20) (aCons (eVar 0) (aCons (eVar 1) (aNil))))) (sIf (tNot (tVal (eCall (c 16) (aCons (eVar 0) (aCons (eVar 2) (aNil)))))) (sNever) (sNil))
theorem sc_need_rule : FnScope N_need_rule ["names", "rules", "rule"] (defScope (topS 38)) := ⟨rfl, rfl, rfl, by decide +kernel, rfl, by decide +kernel, by decide +kernel⟩
theorem d_need_rule (c : Nat → List D → M D) : SSs ⟨N_need_rule, defScope (topS 38), fun _ => true⟩ (tab c) (defBody (topS 38)) (b_need_rule c) := sss_cons (ss_expr (se_call 20 (sa_cons (se_var 0) (sa_cons (se_var 1) (sa_nil))))) (sss_one (ss_if (st_not (st_val (se_call 16 (sa_cons (se_var 0) (sa_cons (se_var 2) (sa_nil)))))) (sss_one (ss_never)) (sss_nil)))
/-! 22 need_table(names, table) : 0:names 1:table -/
def N_need_table : List Str := ["names", "table"]
def b_need_table (c : Nat → List D → M D) : SF := sSeq (sExpr (eCall (c 19) (aCons (eVar 0) (aNil)))) (sIf (tNot (tVal (eCall (c 18) (aCons (eVar 0) (aCons (eVar 1) (aNil)))))) (sNever) (sNil))
theorem sc_need_table : FnScope N_need_table ["names", "table"] (defScope (topS 39)) := ⟨rfl, rfl, rfl, by decide +kernel, rfl, by decide +kernel, by decide +kernel⟩
theorem d_need_table (c : Nat → List D → M D) : SSs ⟨N_need_table, defScope (topS 39), fun _ => true⟩ (tab c) (defBody (topS 39)) (b_need_table c) := sss_cons (ss_expr (se_call 19 (sa_cons (se_var 0) (sa_nil)))) (sss_one (ss_if (st_not (st_val (se_call 18 (sa_cons (se_var 0) (sa_cons (se_var 1) (sa_nil)))))) (sss_one (ss_never)) (sss_nil)))
/-! 23 settled_by(rules, some) : 0:rules 1:some 2:found 3:many 4:left 5:right 6:name -/
def N_settled_by : List Str := ["rules", "some", "found", "many", "left", "right", "name"]
def b_settled_by (c : Nat → List D → M D) : SF := sSeq (sPar 2 3 (xOwn (lCall listD (aCons (eOpd 1) aNil))) (xVal (eOp1 negD (eLit (.int 1))))) (sSeq (sWhile FUEL (tVal (eOp2 ltD (eOpd 3) (eCall lenD (aCons (eOpd 2) aNil)))) (sSeq (sSet 3 (xVal (eCall lenD (aCons (eOpd 2) aNil)))) (sFor (iAny (eVar 0)) (gTup [gName 4, gName 5]) (sIf (tVal (eCall allD (aCons (eLst (cComp [6] (iAny (eOpd 4)) (gName 6) (tYes) (eOp2 inD (eOpd 6) (eOpd 2)))) aNil))) (sExt 2 (eLst (cComp [6] (iAny (eOpd 5)) (gName 6) (tVal (eOp2 notInD (eOpd 6) (eOpd 2))) (eVar 6)))) (sNil))))) (sRet (eLst (lCall sortD (aCons (eOpd 2) aNil)))))
theorem sc_settled_by : FnScope N_settled_by ["rules", "some"] (defScope (topS 40)) := ⟨rfl, rfl, rfl, by decide +kernel, rfl, by decide +kernel, by decide +kernel⟩
theorem d_settled_by (c : Nat → List D → M D) : SSs ⟨N_settled_by, defScope (topS 40), fun _ => true⟩ (tab c) (defBody (topS 40)) (b_settled_by c) := sss_cons (ss_parK 2 3 ((sfr_list (so_var 1)).sx) ((se_neg ((se_int).so)).sx)) (sss_cons (ss_while FUEL (st_lt (so_var 3) ((se_len (so_var 2)).so)) (sss_cons (ss_set 3 ((se_len (so_var 2)).sx)) (sss_one (ss_for (vs := [4, 5]) (si_any (se_var 0)) (sg_tup (sgs_cons (sg_name 4) (sgs_cons (sg_name 5) (sgs_nil)))) (sss_one (ss_if (st_val (se_all (((sfr_comp [("name", 6)] (sic_any (so_var 4)) (sg_name 6) (sts_nil) (se_in (so_var 6) (so_var 2))).se).so))) (sss_one (ss_ext 2 (((sfr_comp [("name", 6)] (sic_any (so_var 5)) (sg_name 6) (sts_one (st_notIn (so_var 6) (so_var 2))) (se_var 6)).se).so))) (sss_nil))))))) (sss_one (ss_ret ((sfr_sortS (so_var 2)).se))))
/-! 24 is_settled(rules, rule) : 0:rules 1:rule 2:known 3:name -/
def N_is_settled : List Str := ["rules", "rule", "known", "name"]
def b_is_settled (c : Nat → List D → M D) : SF := sSeq (sSet 2 (xVal (eCall (c 23) (aCons (eVar 0) (aCons (eOp2 ixD (eOpd 1) (eLit (.int 0))) (aNil)))))) (sRet (eCall allD (aCons (eLst (cComp [3] (iAny (eOp2 ixD (eOpd 1) (eLit (.int 1)))) (gName 3) (tYes) (eOp2 inD (eOpd 3) (eOpd 2)))) aNil)))
theorem sc_is_settled : FnScope N_is_settled ["rules", "rule"] (defScope (topS 41)) := ⟨rfl, rfl, rfl, by decide +kernel, rfl, by decide +kernel, by decide +kernel⟩
theorem d_is_settled (c : Nat → List D → M D) : SSs ⟨N_is_settled, defScope (topS 41), fun _ => true⟩ (tab c) (defBody (topS 41)) (b_is_settled c) := sss_cons (ss_set 2 ((se_call 23 (sa_cons (se_var 0) (sa_cons (se_ix (so_var 1) ((se_int).so)) (sa_nil)))).sx)) (sss_one (ss_ret (se_all (((sfr_comp [("name", 3)] (sic_any ((se_ix (so_var 1) ((se_int).so)).so)) (sg_name 3) (sts_nil) (se_in (so_var 3) (so_var 2))).se).so))))
/-! 25 value_at(document, name) : 0:document 1:name 2:field -/
def N_value_at : List Str := ["document", "name", "field"]
def b_value_at (c : Nat → List D → M D) : SF := sRet (eOp2 ixD (eLst (cComp [2] (iAny (eOp2 ixD (eOpd 0) (eLit (.int 1)))) (gName 2) (tVal (eOp2 eqD (eOp2 ixD (eOpd 2) (eLit (.int 0))) (eOpd 1))) (eOp2 ixD (eOpd 2) (eLit (.int 1))))) (eLit (.int 0)))
theorem sc_value_at : FnScope N_value_at ["document", "name"] (defScope (topS 42)) := ⟨rfl, rfl, rfl, by decide +kernel, rfl, by decide +kernel, by decide +kernel⟩
theorem d_value_at (c : Nat → List D → M D) : SSs ⟨N_value_at, defScope (topS 42), fun _ => true⟩ (tab c) (defBody (topS 42)) (b_value_at c) := sss_one (ss_ret (se_ix (((sfr_comp [("field", 2)] (sic_any ((se_ix (so_var 0) ((se_int).so)).so)) (sg_name 2) (sts_one (st_eq ((se_ix (so_var 2) ((se_int).so)).so) (so_var 1))) (se_ix (so_var 2) ((se_int).so))).se).so) ((se_int).so)))
/-! 26 are_alike_at(one, other, names) : 0:one 1:other 2:names 3:name -/
def N_are_alike_at : List Str := ["one", "other", "names", "name"]
def b_are_alike_at (c : Nat → List D → M D) : SF := sRet (eCall allD (aCons (eLst (cComp [3] (iAny (eOpd 2)) (gName 3) (tYes) (eCall (c 13) (aCons (eCall (c 25) (aCons (eVar 0) (aCons (eVar 3) (aNil)))) (aCons (eCall (c 25) (aCons (eVar 1) (aCons (eVar 3) (aNil)))) (aNil)))))) aNil))
theorem sc_are_alike_at : FnScope N_are_alike_at ["one", "other", "names"] (defScope (topS 43)) := ⟨rfl, rfl, rfl, by decide +kernel, rfl, by decide +kernel, by decide +kernel⟩
theorem d_are_alike_at (c : Nat → List D → M D) : SSs ⟨N_are_alike_at, defScope (topS 43), fun _ => true⟩ (tab c) (defBody (topS 43)) (b_are_alike_at c) := sss_one (ss_ret (se_all (((sfr_comp [("name", 3)] (sic_any (so_var 2)) (sg_name 3) (sts_nil) (se_call 13 (sa_cons (se_call 25 (sa_cons (se_var 0) (sa_cons (se_var 3) (sa_nil)))) (sa_cons (se_call 25 (sa_cons (se_var 1) (sa_cons (se_var 3) (sa_nil)))) (sa_nil))))).se).so)))
/-! 27 breach_of(table, rule) : 0:table 1:rule 2:at 3:by -/
def N_breach_of : List Str := ["table", "rule", "at", "by"]
def b_breach_of (c : Nat → List D → M D) : SF := sSeq (sFor (lCall range1D (aCons (eCall lenD (aCons (eOpd 0) aNil)) (aNil))) (gName 2) (sFor (lCall range2D (aCons (eOp2 addD (eOpd 2) (eLit (.int 1))) (aCons (eCall lenD (aCons (eOpd 0) aNil)) (aNil)))) (gName 3) (sIf (tAnd (tVal (eCall (c 26) (aCons (eOp2 ixD (eOpd 0) (eOpd 2)) (aCons (eOp2 ixD (eOpd 0) (eOpd 3)) (aCons (eOp2 ixD (eOpd 1) (eLit (.int 0))) (aNil)))))) (tNot (tVal (eCall (c 26) (aCons (eOp2 ixD (eOpd 0) (eOpd 2)) (aCons (eOp2 ixD (eOpd 0) (eOpd 3)) (aCons (eOp2 ixD (eOpd 1) (eLit (.int 1))) (aNil)))))))) (sRet (eTup (aCons (eVar 2) (aCons (eVar 3) (aNil))))) (sNil)))) (sRet (eLit .non))
theorem sc_breach_of : FnScope N_breach_of ["table", "rule"] (defScope (topS 44)) := ⟨rfl, rfl, rfl, by decide +kernel, rfl, by decide +kernel, by decide +kernel⟩
theorem d_breach_of (c : Nat → List D → M D) : SSs ⟨N_breach_of, defScope (topS 44), fun _ => true⟩ (tab c) (defBody (topS 44)) (b_breach_of c) := sss_cons (ss_for (vs := [2]) (si_range1 ((se_len (so_var 0)).so)) (sg_name 2) (sss_one (ss_for (vs := [3]) (si_range2 ((se_add (so_var 2) ((se_int).so)).so) ((se_len (so_var 0)).so)) (sg_name 3) (sss_one (ss_if (st_w (sw_and (st_val (se_call 26 (sa_cons (se_ix (so_var 0) (so_var 2)) (sa_cons (se_ix (so_var 0) (so_var 3)) (sa_cons (se_ix (so_var 1) ((se_int).so)) (sa_nil)))))) (sw_and1 (st_not (st_val (se_call 26 (sa_cons (se_ix (so_var 0) (so_var 2)) (sa_cons (se_ix (so_var 0) (so_var 3)) (sa_cons (se_ix (so_var 1) ((se_int).so)) (sa_nil)))))))))) (sss_one (ss_ret (se_tup (sa_cons (se_var 2) (sa_cons (se_var 3) (sa_nil)))))) (sss_nil)))))) (sss_one (ss_ret (se_non)))
/-! 28 row_of(names, numbers) : 0:names 1:numbers -/
def N_row_of : List Str := ["names", "numbers"]
def b_row_of (c : Nat → List D → M D) : SF := sRet (eTup (aCons (eLit (.str "doc")) (aCons (eCall tupleD (aCons (eLst (lCall zipLD (aCons (eVar 0) (aCons (eVar 1) aNil)))) aNil)) (aNil))))
theorem sc_row_of : FnScope N_row_of ["names", "numbers"] (defScope (topS 45)) := ⟨rfl, rfl, rfl, by decide +kernel, rfl, by decide +kernel, by decide +kernel⟩
theorem d_row_of (c : Nat → List D → M D) : SSs ⟨N_row_of, defScope (topS 45), fun _ => true⟩ (tab c) (defBody (topS 45)) (b_row_of c) := sss_one (ss_ret (se_tup (sa_cons (se_str) (sa_cons (se_tuple (((sfr_listZip (se_var 0) (se_var 1)).se).so)) (sa_nil)))))
/-! 29 are_names(value) : 0:value -/
def N_are_names : List Str := ["value"]
def b_are_names (c : Nat → List D → M D) : SF := sRet (eCall (c 14) (aCons (eVar 0) (aCons (eLit (.int 1)) (aNil))))
theorem sc_are_names : FnScope N_are_names ["value"] (defScope (topS 46)) := ⟨rfl, rfl, rfl, by decide +kernel, rfl, by decide +kernel, by decide +kernel⟩
theorem d_are_names (c : Nat → List D → M D) : SSs ⟨N_are_names, defScope (topS 46), fun _ => true⟩ (tab c) (defBody (topS 46)) (b_are_names c) := sss_one (ss_ret (se_call 14 (sa_cons (se_var 0) (sa_cons (se_int) (sa_nil)))))
/-! 30 are_rules(names, value) : 0:names 1:value -/
def N_are_rules : List Str := ["names", "value"]
def b_are_rules (c : Nat → List D → M D) : SF := sSeq (sExpr (eCall (c 19) (aCons (eVar 0) (aNil)))) (sRet (eCall (c 17) (aCons (eVar 0) (aCons (eVar 1) (aNil)))))
theorem sc_are_rules : FnScope N_are_rules ["names", "value"] (defScope (topS 47)) := ⟨rfl, rfl, rfl, by decide +kernel, rfl, by decide +kernel, by decide +kernel⟩
theorem d_are_rules (c : Nat → List D → M D) : SSs ⟨N_are_rules, defScope (topS 47), fun _ => true⟩ (tab c) (defBody (topS 47)) (b_are_rules c) := sss_cons (ss_expr (se_call 19 (sa_cons (se_var 0) (sa_nil)))) (sss_one (ss_ret (se_call 17 (sa_cons (se_var 0) (sa_cons (se_var 1) (sa_nil))))))
/-! 31 settled(names, rules, some) : 0:names 1:rules 2:some -/
def N_settled : List Str := ["names", "rules", "some"]
def b_settled (c : Nat → List D → M D) : SF := sSeq (sExpr (eCall (c 20) (aCons (eVar 0) (aCons (eVar 1) (aNil))))) (sSeq (sIf (tNot (tVal (eCall (c 15) (aCons (eVar 0) (aCons (eVar 2) (aCons (eLit (.int 0)) (aNil))))))) (sNever) (sNil)) (sRet (eCall tupleD (aCons (eCall (c 23) (aCons (eVar 1) (aCons (eVar 2) (aNil)))) aNil))))
theorem sc_settled : FnScope N_settled ["names", "rules", "some"] (defScope (topS 48)) := ⟨rfl, rfl, rfl, by decide +kernel, rfl, by decide +kernel, by decide +kernel⟩
theorem d_settled (c : Nat → List D → M D) : SSs ⟨N_settled, defScope (topS 48), fun _ => true⟩ (tab c) (defBody (topS 48)) (b_settled c) := sss_cons (ss_expr (se_call 20 (sa_cons (se_var 0) (sa_cons (se_var 1) (sa_nil))))) (sss_cons (ss_if (st_not (st_val (se_call 15 (sa_cons (se_var 0) (sa_cons (se_var 2) (sa_cons (se_int) (sa_nil))))))) (sss_one (ss_never)) (sss_nil)) (sss_one (ss_ret (se_tuple ((se_call 23 (sa_cons (se_var 1) (sa_cons (se_var 2) (sa_nil)))).so)))))
/-! 32 follows(names, rules, rule) : 0:names 1:rules 2:rule -/
def N_follows : List Str := ["names", "rules", "rule"]
def b_follows (c : Nat → List D → M D) : SF := sSeq (sExpr (eCall (c 21) (aCons (eVar 0) (aCons (eVar 1) (aCons (eVar 2) (aNil)))))) (sRet (eCall (c 24) (aCons (eVar 1) (aCons (eVar 2) (aNil)))))
theorem sc_follows : FnScope N_follows ["names", "rules", "rule"] (defScope (topS 49)) := ⟨rfl, rfl, rfl, by decide +kernel, rfl, by decide +kernel, by decide +kernel⟩
theorem d_follows (c : Nat → List D → M D) : SSs ⟨N_follows, defScope (topS 49), fun _ => true⟩ (tab c) (defBody (topS 49)) (b_follows c) := sss_cons (ss_expr (se_call 21 (sa_cons (se_var 0) (sa_cons (se_var 1) (sa_cons (se_var 2) (sa_nil)))))) (sss_one (ss_ret (se_call 24 (sa_cons (se_var 1) (sa_cons (se_var 2) (sa_nil))))))
/-! 33 proof(names, rules, rule) : 0:names 1:rules 2:rule 3:known 4:found 5:able 6:good 7:name 8:at 9:left 10:right -/
def N_proof : List Str := ["names", "rules", "rule", "known", "found", "able", "good", "name", "at", "left", "right"]
def b_proof (c : Nat → List D → M D) : SF := sSeq (sExpr (eCall (c 21) (aCons (eVar 0) (aCons (eVar 1) (aCons (eVar 2) (aNil)))))) (sSeq (sIf (tNot (tVal (eCall (c 24) (aCons (eVar 1) (aCons (eVar 2) (aNil)))))) (sRet (eLit .non)) (sNil)) (sSeq (sPar 3 4 (xVal (eLst (lCall listD (aCons (eOp2 ixD (eOpd 2) (eLit (.int 0))) aNil)))) (xVal (eTup (aNil)))) (sSeq (sWhile FUEL (tNot (tVal (eCall allD (aCons (eLst (cComp [7] (iAny (eOp2 ixD (eOpd 2) (eLit (.int 1)))) (gName 7) (tYes) (eOp2 inD (eOpd 7) (eOpd 3)))) aNil)))) (sSeq (sSet 5 (xVal (eLst (cComp [8, 9, 10] (lCall enumD (aCons (eVar 1) aNil)) (gTup [gName 8, gTup [gName 9, gName 10]]) (tVal (eCall allD (aCons (eLst (cComp [7] (iAny (eOpd 9)) (gName 7) (tYes) (eOp2 inD (eOpd 7) (eOpd 3)))) aNil))) (eVar 8))))) (sSeq (sSet 6 (xVal (eLst (cComp [8] (iAny (eOpd 5)) (gName 8) (tNot (tVal (eCall allD (aCons (eLst (cComp [7] (iAny (eOp2 ixD (eOp2 ixD (eOpd 1) (eOpd 8)) (eLit (.int 1)))) (gName 7) (tYes) (eOp2 inD (eOpd 7) (eOpd 3)))) aNil)))) (eVar 8))))) (sPar 3 4 (xVal (eOp2 addD (eOpd 3) (eLst (cComp [7] (iAny (eOp2 ixD (eOp2 ixD (eOpd 1) (eOp2 ixD (eOpd 6) (eLit (.int 0)))) (eLit (.int 1)))) (gName 7) (tVal (eOp2 notInD (eOpd 7) (eOpd 3))) (eVar 7))))) (xVal (eOp2 addD (eOpd 4) (eTup (aCons (eOp2 ixD (eOpd 6) (eLit (.int 0))) (aNil))))))))) (sRet (eVar 4)))))
theorem sc_proof : FnScope N_proof ["names", "rules", "rule"] (defScope (topS 50)) := ⟨rfl, rfl, rfl, by decide +kernel, rfl, by decide +kernel, by decide +kernel⟩
theorem d_proof (c : Nat → List D → M D) : SSs ⟨N_proof, defScope (topS 50), fun _ => true⟩ (tab c) (defBody (topS 50)) (b_proof c) := sss_cons (ss_expr (se_call 21 (sa_cons (se_var 0) (sa_cons (se_var 1) (sa_cons (se_var 2) (sa_nil)))))) (sss_cons (ss_if (st_not (st_val (se_call 24 (sa_cons (se_var 1) (sa_cons (se_var 2) (sa_nil)))))) (sss_one (ss_ret (se_non))) (sss_nil)) (sss_cons (ss_parK 3 4 (((sfr_list ((se_ix (so_var 2) ((se_int).so)).so)).se).sx) ((se_tup (sa_nil)).sx)) (sss_cons (ss_while FUEL (st_not (st_val (se_all (((sfr_comp [("name", 7)] (sic_any ((se_ix (so_var 2) ((se_int).so)).so)) (sg_name 7) (sts_nil) (se_in (so_var 7) (so_var 3))).se).so)))) (sss_cons (ss_setCv 5 [("at", 8), ("left", 9), ("right", 10)] ((si_enum (se_var 1)).toC) (sg_tup (sgs_cons (sg_name 8) (sgs_cons (sg_tup (sgs_cons (sg_name 9) (sgs_cons (sg_name 10) (sgs_nil)))) (sgs_nil)))) (sts_one (st_val (se_all (((sfr_comp [("name", 7)] (sic_any (so_var 9)) (sg_name 7) (sts_nil) (se_in (so_var 7) (so_var 3))).se).so)))) (se_var 8)) (sss_cons (ss_setCv 6 [("at", 8)] (sic_any (so_var 5)) (sg_name 8) (sts_one (st_not (st_val (se_all (((sfr_comp [("name", 7)] (sic_any ((se_ix ((se_ix (so_var 1) (so_var 8)).so) ((se_int).so)).so)) (sg_name 7) (sts_nil) (se_in (so_var 7) (so_var 3))).se).so))))) (se_var 8)) (sss_one (ss_parK 3 4 ((se_add (so_var 3) (((sfr_comp [("name", 7)] (sic_any ((se_ix ((se_ix (so_var 1) ((se_ix (so_var 6) ((se_int).so)).so)).so) ((se_int).so)).so)) (sg_name 7) (sts_one (st_notIn (so_var 7) (so_var 3))) (se_var 7)).se).so)).sx) ((se_add (so_var 4) ((se_tup (sa_cons (se_ix (so_var 6) ((se_int).so)) (sa_nil))).so)).sx)))))) (sss_one (ss_ret (se_var 4))))))
/-! 34 is_proof(names, rules, rule, value) : 0:names 1:rules 2:rule 3:value 4:known 5:at 6:name -/
def N_is_proof : List Str := ["names", "rules", "rule", "value", "known", "at", "name"]
def b_is_proof (c : Nat → List D → M D) : SF := sSeq (sExpr (eCall (c 21) (aCons (eVar 0) (aCons (eVar 1) (aCons (eVar 2) (aNil)))))) (sSeq (sIf (tOr (tNot (tVal (eIsin (eOpd 3) .tuple))) (tNot (tVal (eCall allD (aCons (eLst (cComp [5] (iAny (eOpd 3)) (gName 5) (tYes) (eCall (c 0) (aCons (eVar 5) (aCons (eLit (.int 0)) (aCons (eOp2 subD (eCall lenD (aCons (eOpd 1) aNil)) (eLit (.int 1))) (aNil))))))) aNil))))) (sRet (eLit (.bl false))) (sNil)) (sSeq (sSet 4 (xOwn (lCall listD (aCons (eOp2 ixD (eOpd 2) (eLit (.int 0))) aNil)))) (sSeq (sFor (iAny (eVar 3)) (gName 5) (sSeq (sIf (tNot (tVal (eCall allD (aCons (eLst (cComp [6] (iAny (eOp2 ixD (eOp2 ixD (eOpd 1) (eOpd 5)) (eLit (.int 0)))) (gName 6) (tYes) (eOp2 inD (eOpd 6) (eOpd 4)))) aNil)))) (sRet (eLit (.bl false))) (sNil)) (sExt 4 (eLst (lCall listD (aCons (eOp2 ixD (eOp2 ixD (eOpd 1) (eOpd 5)) (eLit (.int 1))) aNil)))))) (sRet (eCall allD (aCons (eLst (cComp [6] (iAny (eOp2 ixD (eOpd 2) (eLit (.int 1)))) (gName 6) (tYes) (eOp2 inD (eOpd 6) (eOpd 4)))) aNil))))))
theorem sc_is_proof : FnScope N_is_proof ["names", "rules", "rule", "value"] (defScope (topS 51)) := ⟨rfl, rfl, rfl, by decide +kernel, rfl, by decide +kernel, by decide +kernel⟩
theorem d_is_proof (c : Nat → List D → M D) : SSs ⟨N_is_proof, defScope (topS 51), fun _ => true⟩ (tab c) (defBody (topS 51)) (b_is_proof c) := sss_cons (ss_expr (se_call 21 (sa_cons (se_var 0) (sa_cons (se_var 1) (sa_cons (se_var 2) (sa_nil)))))) (sss_cons (ss_if (st_w (sw_or (st_not (st_val (se_isin .tuple (so_var 3)))) (sw_or1 (st_not (st_val (se_all (((sfr_comp [("at", 5)] (sic_any (so_var 3)) (sg_name 5) (sts_nil) (se_call 0 (sa_cons (se_var 5) (sa_cons (se_int) (sa_cons (se_sub ((se_len (so_var 1)).so) ((se_int).so)) (sa_nil)))))).se).so))))))) (sss_one (ss_ret (se_bl))) (sss_nil)) (sss_cons (ss_set 4 ((sfr_list ((se_ix (so_var 2) ((se_int).so)).so)).sx)) (sss_cons (ss_for (vs := [5]) (si_any (se_var 3)) (sg_name 5) (sss_cons (ss_if (st_not (st_val (se_all (((sfr_comp [("name", 6)] (sic_any ((se_ix ((se_ix (so_var 1) (so_var 5)).so) ((se_int).so)).so)) (sg_name 6) (sts_nil) (se_in (so_var 6) (so_var 4))).se).so)))) (sss_one (ss_ret (se_bl))) (sss_nil)) (sss_one (ss_ext 4 (((sfr_list ((se_ix ((se_ix (so_var 1) (so_var 5)).so) ((se_int).so)).so)).se).so))))) (sss_one (ss_ret (se_all (((sfr_comp [("name", 6)] (sic_any ((se_ix (so_var 2) ((se_int).so)).so)) (sg_name 6) (sts_nil) (se_in (so_var 6) (so_var 4))).se).so)))))))
/-! 35 against(names, rules, rule) : 0:names 1:rules 2:rule 3:known 4:name -/
def N_against : List Str := ["names", "rules", "rule", "known", "name"]
def b_against (c : Nat → List D → M D) : SF := sSeq (sExpr (eCall (c 21) (aCons (eVar 0) (aCons (eVar 1) (aCons (eVar 2) (aNil)))))) (sSeq (sIf (tVal (eCall (c 24) (aCons (eVar 1) (aCons (eVar 2) (aNil))))) (sRet (eLit .non)) (sNil)) (sSeq (sSet 3 (xVal (eCall (c 23) (aCons (eVar 1) (aCons (eOp2 ixD (eOpd 2) (eLit (.int 0))) (aNil)))))) (sRet (eTup (aCons (eCall (c 28) (aCons (eVar 0) (aCons (eOp2 mulD (eTup (aCons (eLit (.int 0)) (aNil))) (eCall lenD (aCons (eOpd 0) aNil))) (aNil)))) (aCons (eCall (c 28) (aCons (eVar 0) (aCons (eLst (cComp [4] (iAny (eOpd 0)) (gName 4) (tYes) (eIf (tVal (eOp2 inD (eOpd 4) (eOpd 3))) (eLit (.int 0)) (eLit (.int 1))))) (aNil)))) (aNil)))))))
theorem sc_against : FnScope N_against ["names", "rules", "rule"] (defScope (topS 52)) := ⟨rfl, rfl, rfl, by decide +kernel, rfl, by decide +kernel, by decide +kernel⟩
theorem d_against (c : Nat → List D → M D) : SSs ⟨N_against, defScope (topS 52), fun _ => true⟩ (tab c) (defBody (topS 52)) (b_against c) := sss_cons (ss_expr (se_call 21 (sa_cons (se_var 0) (sa_cons (se_var 1) (sa_cons (se_var 2) (sa_nil)))))) (sss_cons (ss_if (st_val (se_call 24 (sa_cons (se_var 1) (sa_cons (se_var 2) (sa_nil))))) (sss_one (ss_ret (se_non))) (sss_nil)) (sss_cons (ss_set 3 ((se_call 23 (sa_cons (se_var 1) (sa_cons (se_ix (so_var 2) ((se_int).so)) (sa_nil)))).sx)) (sss_one (ss_ret (se_tup (sa_cons (se_call 28 (sa_cons (se_var 0) (sa_cons (se_mul ((se_tup (sa_cons (se_int) (sa_nil))).so) ((se_len (so_var 0)).so)) (sa_nil)))) (sa_cons (se_call 28 (sa_cons (se_var 0) (sa_cons ((sfr_comp [("name", 4)] (sic_any (so_var 0)) (sg_name 4) (sts_nil) (se_if (st_in (so_var 4) (so_var 3)) (se_int) (se_int))).se) (sa_nil)))) (sa_nil))))))))
/-! 36 breach(names, table, rule) : 0:names 1:table 2:rule -/
def N_breach : List Str := ["names", "table", "rule"]
def b_breach (c : Nat → List D → M D) : SF := sSeq (sExpr (eCall (c 22) (aCons (eVar 0) (aCons (eVar 1) (aNil))))) (sSeq (sIf (tNot (tVal (eCall (c 16) (aCons (eVar 0) (aCons (eVar 2) (aNil)))))) (sNever) (sNil)) (sRet (eCall (c 27) (aCons (eVar 1) (aCons (eVar 2) (aNil))))))
theorem sc_breach : FnScope N_breach ["names", "table", "rule"] (defScope (topS 53)) := ⟨rfl, rfl, rfl, by decide +kernel, rfl, by decide +kernel, by decide +kernel⟩
theorem d_breach (c : Nat → List D → M D) : SSs ⟨N_breach, defScope (topS 53), fun _ => true⟩ (tab c) (defBody (topS 53)) (b_breach c) := sss_cons (ss_expr (se_call 22 (sa_cons (se_var 0) (sa_cons (se_var 1) (sa_nil))))) (sss_cons (ss_if (st_not (st_val (se_call 16 (sa_cons (se_var 0) (sa_cons (se_var 2) (sa_nil)))))) (sss_one (ss_never)) (sss_nil)) (sss_one (ss_ret (se_call 27 (sa_cons (se_var 1) (sa_cons (se_var 2) (sa_nil)))))))
/-! 37 _law_cup(script) : 0:script 1:cell -/
def N__law_cup : List Str := ["script", "cell"]
def b__law_cup (c : Nat → List D → M D) : SF := sSeq (sSet 1 (xVal (eCall absD (aCons (eOp2 ixD (eOp2 addD (eLst (lCall listD (aCons (eOpd 0) aNil))) (eLst (aCons (eLit (.int 0)) (aNil)))) (eLit (.int 0))) aNil)))) (sRet (eNew (aCons (eIf (tVal (eOp2 geD (eOpd 1) (eOp2 powD (eLit (.int 10)) (eLit (.int 18))))) (eOp2 fdivD (eOpd 1) (eLit (.int 97))) (eLit (.int 0))) (aCons (eOp2 addD (eOp2 modD (eCall intD (aCons (eOp2 addD (eOp2 mulD (eOpd 1) (eLit (.int 337))) (eLit (.int 4051))) aNil)) (eLit (.int 2077500973))) (eLit (.int 179))) (aNil)))))
theorem sc__law_cup : FnScope N__law_cup ["script"] (defScope (topS 55)) := ⟨rfl, rfl, rfl, by decide +kernel, rfl, by decide +kernel, by decide +kernel⟩
theorem d__law_cup (c : Nat → List D → M D) : SSs ⟨N__law_cup, defScope (topS 55), fun _ => true⟩ (tab c) (defBody (topS 55)) (b__law_cup c) := sss_cons (ss_set 1 ((se_abs ((se_ix ((se_add (((sfr_list (so_var 0)).se).so) (((sfr_lst (sa_cons (se_int) (sa_nil))).se).so)).so) ((se_int).so)).so)).sx)) (sss_one (ss_ret (se_new (sa_cons (se_if (st_ge (so_var 1) ((se_pow ((se_int).so) ((se_int).so)).so)) (se_fdiv (so_var 1) ((se_int).so)) (se_int)) (sa_cons (se_add ((se_mod ((se_int1 ((se_add ((se_mul (so_var 1) ((se_int).so)).so) ((se_int).so)).so)).so) ((se_int).so)).so) ((se_int).so)) (sa_nil))))))
/-! 38 _law_roll(cup, many) : 0:cup 1:many 2:found 3:deep -/
def N__law_roll : List Str := ["cup", "many", "found", "deep"]
def b__law_roll (c : Nat → List D → M D) : SF := sSeq (sIf (tVal (eOp2 gtD (eOp2 ixD (eOpd 0) (eLit (.int 0))) (eLit (.int 0)))) (sSeq (sSet 2 (xVal (eOp2 modD (eCall intD (aCons (eOp2 ixD (eOpd 0) (eLit (.int 0))) aNil)) (eOpd 1)))) (sSeq (sPut (eOpd 0) (eLit (.int 0)) (eOp2 fdivD (eOp2 ixD (eOpd 0) (eLit (.int 0))) (eOpd 1)) putD) (sRet (eVar 2)))) (sNil)) (sSeq (sPut (eOpd 0) (eLit (.int 1)) (eOp2 modD (eCall intD (aCons (eOp2 addD (eOp2 mulD (eOp2 ixD (eOpd 0) (eLit (.int 1))) (eLit (.int 30931))) (eLit (.int 7907))) aNil)) (eLit (.int 2147483399))) putD) (sSeq (sSet 3 (xVal (eOp2 modD (eCall intD (aCons (eOp2 mulD (eOp2 ixD (eOpd 0) (eLit (.int 1))) (eOp2 addD (eOp2 ixD (eOpd 0) (eLit (.int 1))) (eLit (.int 251)))) aNil)) (eLit (.int 2147483563))))) (sRet (eOp2 modD (eCall intD (aCons (eOp2 fdivD (eOpd 3) (eLit (.int 829))) aNil)) (eOpd 1)))))
theorem sc__law_roll : FnScope N__law_roll ["cup", "many"] (defScope (topS 56)) := ⟨rfl, rfl, rfl, by decide +kernel, rfl, by decide +kernel, by decide +kernel⟩
theorem d__law_roll (c : Nat → List D → M D) : SSs ⟨N__law_roll, defScope (topS 56), fun _ => true⟩ (tab c) (defBody (topS 56)) (b__law_roll c) := sss_cons (ss_if (st_gt ((se_ix (so_var 0) ((se_int).so)).so) ((se_int).so)) (sss_cons (ss_set 2 ((se_mod ((se_int1 ((se_ix (so_var 0) ((se_int).so)).so)).so) (so_var 1)).sx)) (sss_cons (ss_put (se_fdiv ((se_ix (so_var 0) ((se_int).so)).so) (so_var 1)) (so_var 0) ((se_int).so)) (sss_one (ss_ret (se_var 2))))) (sss_nil)) (sss_cons (ss_put (se_mod ((se_int1 ((se_add ((se_mul ((se_ix (so_var 0) ((se_int).so)).so) ((se_int).so)).so) ((se_int).so)).so)).so) ((se_int).so)) (so_var 0) ((se_int).so)) (sss_cons (ss_set 3 ((se_mod ((se_int1 ((se_mul ((se_ix (so_var 0) ((se_int).so)).so) ((se_add ((se_ix (so_var 0) ((se_int).so)).so) ((se_int).so)).so)).so)).so) ((se_int).so)).sx)) (sss_one (ss_ret (se_mod ((se_int1 ((se_fdiv (so_var 3) ((se_int).so)).so)).so) (so_var 1))))))
/-! 39 _law_some(cup, things) : 0:cup 1:things -/
def N__law_some : List Str := ["cup", "things"]
def b__law_some (c : Nat → List D → M D) : SF := sRet (eOp2 ixD (eOpd 1) (eCall (c 38) (aCons (eVar 0) (aCons (eCall lenD (aCons (eOpd 1) aNil)) (aNil)))))
theorem sc__law_some : FnScope N__law_some ["cup", "things"] (defScope (topS 57)) := ⟨rfl, rfl, rfl, by decide +kernel, rfl, by decide +kernel, by decide +kernel⟩
theorem d__law_some (c : Nat → List D → M D) : SSs ⟨N__law_some, defScope (topS 57), fun _ => true⟩ (tab c) (defBody (topS 57)) (b__law_some c) := sss_one (ss_ret (se_ix (so_var 1) ((se_call 38 (sa_cons (se_var 0) (sa_cons (se_len (so_var 1)) (sa_nil)))).so)))
/-! 40 _law_same(told, due) : 0:told 1:due 2:at -/
def N__law_same : List Str := ["told", "due", "at"]
def b__law_same (c : Nat → List D → M D) : SF := sSeq (sIf (tVal (eIsin (eOpd 1) .tuple)) (sSeq (sIf (tOr (tNot (tVal (eIsin (eOpd 0) .tuple))) (tVal (eOp2 neD (eCall lenD (aCons (eOpd 0) aNil)) (eCall lenD (aCons (eOpd 1) aNil))))) (sRet (eLit (.bl false))) (sNil)) (sRet (eCall allD (aCons (eLst (cComp [2] (lCall range1D (aCons (eCall lenD (aCons (eOpd 1) aNil)) (aNil))) (gName 2) (tYes) (eCall (c 40) (aCons (eOp2 ixD (eOpd 0) (eOpd 2)) (aCons (eOp2 ixD (eOpd 1) (eOpd 2)) (aNil)))))) aNil)))) (sNil)) (sSeq (sIf (tVal (eOp1 isNoneD (eOpd 1))) (sRet (eOp1 isNoneD (eOpd 0))) (sNil)) (sSeq (sIf (tVal (eIsin (eOpd 1) .bool)) (sRet (eIf (tVal (eVar 1)) (eOp2 isBlD (eOpd 0) (eLit (.bl true))) (eOp2 isBlD (eOpd 0) (eLit (.bl false))))) (sNil)) (sSeq (sIf (tVal (eIsin (eOpd 1) .int)) (sRet (eAndV (eIsin (eOpd 0) .int) (eAndV (eNotV (eIsin (eOpd 0) .bool)) (eOp2 eqD (eCall intD (aCons (eOpd 0) aNil)) (eOpd 1))))) (sNil)) (sRet (eAndV (eIsin (eOpd 0) .str) (eOp2 eqD (eCall strD (aCons (eOpd 0) aNil)) (eOpd 1)))))))
theorem sc__law_same : FnScope N__law_same ["told", "due"] (defScope (topS 58)) := ⟨rfl, rfl, rfl, by decide +kernel, rfl, by decide +kernel, by decide +kernel⟩
theorem d__law_same (c : Nat → List D → M D) : SSs ⟨N__law_same, defScope (topS 58), fun _ => true⟩ (tab c) (defBody (topS 58)) (b__law_same c) := sss_cons (ss_if (st_val (se_isin .tuple (so_var 1))) (sss_cons (ss_if (st_w (sw_or (st_not (st_val (se_isin .tuple (so_var 0)))) (sw_or1 (st_ne ((se_len (so_var 0)).so) ((se_len (so_var 1)).so))))) (sss_one (ss_ret (se_bl))) (sss_nil)) (sss_one (ss_ret (se_all (((sfr_comp [("at", 2)] ((si_range1 ((se_len (so_var 1)).so)).toC) (sg_name 2) (sts_nil) (se_call 40 (sa_cons (se_ix (so_var 0) (so_var 2)) (sa_cons (se_ix (so_var 1) (so_var 2)) (sa_nil))))).se).so))))) (sss_nil)) (sss_cons (ss_if (st_isN (so_var 1)) (sss_one (ss_ret (se_isN (so_var 0)))) (sss_nil)) (sss_cons (ss_if (st_val (se_isin .bool (so_var 1))) (sss_one (ss_ret (se_if (st_val (se_var 1)) (se_isB (so_var 0)) (se_isB (so_var 0))))) (sss_nil)) (sss_cons (ss_if (st_val (se_isin .int (so_var 1))) (sss_one (ss_ret (se_and (se_isin .int (so_var 0)) (se_and (se_not (se_isin .bool (so_var 0))) (se_one (se_eq ((se_int1 (so_var 0)).so) (so_var 1))))))) (sss_nil)) (sss_one (ss_ret (se_and (se_isin .str (so_var 0)) (se_one (se_eq ((se_str1 (so_var 0)).so) (so_var 1)))))))))
/-! 41 _law_names(cup, most) : 0:cup 1:most -/
def N__law_names : List Str := ["cup", "most"]
def b__law_names (c : Nat → List D → M D) : SF := sRet (eCall tupleD (aCons (eLst (lCall sortD (aCons (eSlice (eLst (aCons (eLit (.str "a")) (aCons (eLit (.str "b")) (aCons (eLit (.str "c")) (aCons (eLit (.str "d")) (aCons (eLit (.str "e2")) (aCons (eLit (.str "f")) (aNil)))))))) (pNone) (pSome (eOp2 addD (eLit (.int 1)) (eCall (c 38) (aCons (eVar 0) (aCons (eVar 1) (aNil))))))) aNil))) aNil))
theorem sc__law_names : FnScope N__law_names ["cup", "most"] (defScope (topS 60)) := ⟨rfl, rfl, rfl, by decide +kernel, rfl, by decide +kernel, by decide +kernel⟩
theorem d__law_names (c : Nat → List D → M D) : SSs ⟨N__law_names, defScope (topS 60), fun _ => true⟩ (tab c) (defBody (topS 60)) (b__law_names c) := sss_one (ss_ret (se_tuple (((sfr_sortS ((se_slice (((sfr_lst (sa_cons (se_str) (sa_cons (se_str) (sa_cons (se_str) (sa_cons (se_str) (sa_cons (se_str) (sa_cons (se_str) (sa_nil)))))))).se).so) (spo_none) (spo_some ((se_add ((se_int).so) ((se_call 38 (sa_cons (se_var 0) (sa_cons (se_var 1) (sa_nil)))).so)).so))).so)).se).so)))
/-! 42 _law_part(cup, names, least) : 0:cup 1:names 2:least 3:found 4:name -/
def N__law_part : List Str := ["cup", "names", "least", "found", "name"]
def b__law_part (c : Nat → List D → M D) : SF := sSeq (sSet 3 (xVal (eCall tupleD (aCons (eLst (cComp [4] (iAny (eOpd 1)) (gName 4) (tVal (eOp2 ltD (eCall (c 38) (aCons (eVar 0) (aCons (eLit (.int 5)) (aNil)))) (eLit (.int 2)))) (eVar 4))) aNil)))) (sRet (eIf (tVal (eOp2 geD (eCall lenD (aCons (eOpd 3) aNil)) (eOpd 2))) (eVar 3) (eTup (aCons (eCall (c 39) (aCons (eVar 0) (aCons (eVar 1) (aNil)))) (aNil)))))
theorem sc__law_part : FnScope N__law_part ["cup", "names", "least"] (defScope (topS 61)) := ⟨rfl, rfl, rfl, by decide +kernel, rfl, by decide +kernel, by decide +kernel⟩
theorem d__law_part (c : Nat → List D → M D) : SSs ⟨N__law_part, defScope (topS 61), fun _ => true⟩ (tab c) (defBody (topS 61)) (b__law_part c) := sss_cons (ss_set 3 ((se_tuple (((sfr_comp [("name", 4)] (sic_any (so_var 1)) (sg_name 4) (sts_one (st_lt ((se_call 38 (sa_cons (se_var 0) (sa_cons (se_int) (sa_nil)))).so) ((se_int).so))) (se_var 4)).se).so)).sx)) (sss_one (ss_ret (se_if (st_ge ((se_len (so_var 3)).so) (so_var 2)) (se_var 3) (se_tup (sa_cons (se_call 39 (sa_cons (se_var 0) (sa_cons (se_var 1) (sa_nil)))) (sa_nil))))))
/-! 43 _law_rules(cup, names, most) : 0:cup 1:names 2:most 3:turn -/
def N__law_rules : List Str := ["cup", "names", "most", "turn"]
def b__law_rules (c : Nat → List D → M D) : SF := sRet (eCall tupleD (aCons (eLst (cComp [3] (lCall range1D (aCons (eCall (c 38) (aCons (eVar 0) (aCons (eOp2 addD (eOpd 2) (eLit (.int 1))) (aNil)))) (aNil))) (gName 3) (tYes) (eTup (aCons (eIf (tVal (eOp2 gtD (eCall (c 38) (aCons (eVar 0) (aCons (eLit (.int 7)) (aNil)))) (eLit (.int 0)))) (eCall (c 42) (aCons (eVar 0) (aCons (eVar 1) (aCons (eLit (.int 0)) (aNil))))) (eTup (aNil))) (aCons (eCall (c 42) (aCons (eVar 0) (aCons (eVar 1) (aCons (eLit (.int 1)) (aNil))))) (aNil)))))) aNil))
theorem sc__law_rules : FnScope N__law_rules ["cup", "names", "most"] (defScope (topS 62)) := ⟨rfl, rfl, rfl, by decide +kernel, rfl, by decide +kernel, by decide +kernel⟩
theorem d__law_rules (c : Nat → List D → M D) : SSs ⟨N__law_rules, defScope (topS 62), fun _ => true⟩ (tab c) (defBody (topS 62)) (b__law_rules c) := sss_one (ss_ret (se_tuple (((sfr_comp [("turn", 3)] ((si_range1 ((se_call 38 (sa_cons (se_var 0) (sa_cons (se_add (so_var 2) ((se_int).so)) (sa_nil)))).so)).toC) (sg_name 3) (sts_nil) (se_tup (sa_cons (se_if (st_gt ((se_call 38 (sa_cons (se_var 0) (sa_cons (se_int) (sa_nil)))).so) ((se_int).so)) (se_call 42 (sa_cons (se_var 0) (sa_cons (se_var 1) (sa_cons (se_int) (sa_nil))))) (se_tup (sa_nil))) (sa_cons (se_call 42 (sa_cons (se_var 0) (sa_cons (se_var 1) (sa_cons (se_int) (sa_nil))))) (sa_nil))))).se).so)))
/-! 44 _law_settled(rules, some) : 0:rules 1:some 2:found 3:turn 4:left 5:right 6:name -/
def N__law_settled : List Str := ["rules", "some", "found", "turn", "left", "right", "name"]
def b__law_settled (c : Nat → List D → M D) : SF := sSeq (sSet 2 (xVal (eLst (lCall listD (aCons (eOpd 1) aNil))))) (sSeq (sFor (lCall range1D (aCons (eLit (.int 20)) (aNil))) (gName 3) (sFor (iAny (eVar 0)) (gTup [gName 4, gName 5]) (sIf (tVal (eOp2 eqD (eLst (cComp [6] (iAny (eOpd 4)) (gName 6) (tVal (eOp2 notInD (eOpd 6) (eOpd 2))) (eVar 6))) (eLst (aNil)))) (sSet 2 (xVal (eOp2 addD (eOpd 2) (eLst (cComp [6] (iAny (eOpd 5)) (gName 6) (tVal (eOp2 notInD (eOpd 6) (eOpd 2))) (eVar 6)))))) (sNil)))) (sRet (eCall tupleD (aCons (eLst (lCall sortD (aCons (eOpd 2) aNil))) aNil))))
theorem sc__law_settled : FnScope N__law_settled ["rules", "some"] (defScope (topS 63)) := ⟨rfl, rfl, rfl, by decide +kernel, rfl, by decide +kernel, by decide +kernel⟩
theorem d__law_settled (c : Nat → List D → M D) : SSs ⟨N__law_settled, defScope (topS 63), fun _ => true⟩ (tab c) (defBody (topS 63)) (b__law_settled c) := sss_cons (ss_set 2 (((sfr_list (so_var 1)).se).sx)) (sss_cons (ss_for (vs := [3]) (si_range1 ((se_int).so)) (sg_name 3) (sss_one (ss_for (vs := [4, 5]) (si_any (se_var 0)) (sg_tup (sgs_cons (sg_name 4) (sgs_cons (sg_name 5) (sgs_nil)))) (sss_one (ss_if (st_eq (((sfr_comp [("name", 6)] (sic_any (so_var 4)) (sg_name 6) (sts_one (st_notIn (so_var 6) (so_var 2))) (se_var 6)).se).so) (((sfr_lst (sa_nil)).se).so)) (sss_one (ss_set 2 ((se_add (so_var 2) (((sfr_comp [("name", 6)] (sic_any (so_var 5)) (sg_name 6) (sts_one (st_notIn (so_var 6) (so_var 2))) (se_var 6)).se).so)).sx))) (sss_nil)))))) (sss_one (ss_ret (se_tuple (((sfr_sortS (so_var 2)).se).so)))))
/-! 45 _law_doc_of(names, values) : 0:names 1:values 2:at -/
def N__law_doc_of : List Str := ["names", "values", "at"]
def b__law_doc_of (c : Nat → List D → M D) : SF := sRet (eTup (aCons (eLit (.str "doc")) (aCons (eCall tupleD (aCons (eLst (cComp [2] (lCall range1D (aCons (eCall lenD (aCons (eOpd 0) aNil)) (aNil))) (gName 2) (tYes) (eTup (aCons (eOp2 ixD (eOpd 0) (eOpd 2)) (aCons (eOp2 ixD (eOpd 1) (eOpd 2)) (aNil)))))) aNil)) (aNil))))
theorem sc__law_doc_of : FnScope N__law_doc_of ["names", "values"] (defScope (topS 64)) := ⟨rfl, rfl, rfl, by decide +kernel, rfl, by decide +kernel, by decide +kernel⟩
theorem d__law_doc_of (c : Nat → List D → M D) : SSs ⟨N__law_doc_of, defScope (topS 64), fun _ => true⟩ (tab c) (defBody (topS 64)) (b__law_doc_of c) := sss_one (ss_ret (se_tup (sa_cons (se_str) (sa_cons (se_tuple (((sfr_comp [("at", 2)] ((si_range1 ((se_len (so_var 0)).so)).toC) (sg_name 2) (sts_nil) (se_tup (sa_cons (se_ix (so_var 0) (so_var 2)) (sa_cons (se_ix (so_var 1) (so_var 2)) (sa_nil))))).se).so)) (sa_nil)))))
/-! 46 _law_values(document, some) : 0:document 1:some 2:known 3:name -/
def N__law_values : List Str := ["document", "some", "known", "name"]
def b__law_values (c : Nat → List D → M D) : SF := sSeq (sSet 2 (xVal (eCall dictD (aCons (eLst (lCall listD (aCons (eOp2 ixD (eOpd 0) (eLit (.int 1))) aNil))) aNil)))) (sRet (eCall tupleD (aCons (eLst (cComp [3] (iAny (eOpd 1)) (gName 3) (tYes) (eOp2 ixD (eOpd 2) (eOpd 3)))) aNil)))
theorem sc__law_values : FnScope N__law_values ["document", "some"] (defScope (topS 65)) := ⟨rfl, rfl, rfl, by decide +kernel, rfl, by decide +kernel, by decide +kernel⟩
theorem d__law_values (c : Nat → List D → M D) : SSs ⟨N__law_values, defScope (topS 65), fun _ => true⟩ (tab c) (defBody (topS 65)) (b__law_values c) := sss_cons (ss_set 2 ((se_dict (((sfr_list ((se_ix (so_var 0) ((se_int).so)).so)).se).so)).sx)) (sss_one (ss_ret (se_tuple (((sfr_comp [("name", 3)] (sic_any (so_var 1)) (sg_name 3) (sts_nil) (se_ix (so_var 2) (so_var 3))).se).so))))
/-! 47 _law_breach(table, rule) : 0:table 1:rule 2:found 3:at 4:by -/
def N__law_breach : List Str := ["table", "rule", "found", "at", "by"]
def b__law_breach (c : Nat → List D → M D) : SF := sSeq (sSet 2 (xOwn (aNil))) (sSeq (sFor (lCall range1D (aCons (eCall lenD (aCons (eOpd 0) aNil)) (aNil))) (gName 3) (sFor (lCall range2D (aCons (eOp2 addD (eOpd 3) (eLit (.int 1))) (aCons (eCall lenD (aCons (eOpd 0) aNil)) (aNil)))) (gName 4) (sIf (tAnd (tVal (eOp2 eqD (eCall (c 46) (aCons (eOp2 ixD (eOpd 0) (eOpd 3)) (aCons (eOp2 ixD (eOpd 1) (eLit (.int 0))) (aNil)))) (eCall (c 46) (aCons (eOp2 ixD (eOpd 0) (eOpd 4)) (aCons (eOp2 ixD (eOpd 1) (eLit (.int 0))) (aNil)))))) (tVal (eOp2 neD (eCall (c 46) (aCons (eOp2 ixD (eOpd 0) (eOpd 3)) (aCons (eOp2 ixD (eOpd 1) (eLit (.int 1))) (aNil)))) (eCall (c 46) (aCons (eOp2 ixD (eOpd 0) (eOpd 4)) (aCons (eOp2 ixD (eOpd 1) (eLit (.int 1))) (aNil))))))) (sApp 2 (eTup (aCons (eVar 3) (aCons (eVar 4) (aNil))))) (sNil)))) (sRet (eIf (tVal (eOp2 neD (eOpd 2) (eLst (aNil)))) (eOp2 ixD (eOpd 2) (eLit (.int 0))) (eLit .non))))
theorem sc__law_breach : FnScope N__law_breach ["table", "rule"] (defScope (topS 66)) := ⟨rfl, rfl, rfl, by decide +kernel, rfl, by decide +kernel, by decide +kernel⟩
theorem d__law_breach (c : Nat → List D → M D) : SSs ⟨N__law_breach, defScope (topS 66), fun _ => true⟩ (tab c) (defBody (topS 66)) (b__law_breach c) := sss_cons (ss_set 2 ((sfr_lst (sa_nil)).sx)) (sss_cons (ss_for (vs := [3]) (si_range1 ((se_len (so_var 0)).so)) (sg_name 3) (sss_one (ss_for (vs := [4]) (si_range2 ((se_add (so_var 3) ((se_int).so)).so) ((se_len (so_var 0)).so)) (sg_name 4) (sss_one (ss_if (st_w (sw_and (st_eq ((se_call 46 (sa_cons (se_ix (so_var 0) (so_var 3)) (sa_cons (se_ix (so_var 1) ((se_int).so)) (sa_nil)))).so) ((se_call 46 (sa_cons (se_ix (so_var 0) (so_var 4)) (sa_cons (se_ix (so_var 1) ((se_int).so)) (sa_nil)))).so)) (sw_and1 (st_ne ((se_call 46 (sa_cons (se_ix (so_var 0) (so_var 3)) (sa_cons (se_ix (so_var 1) ((se_int).so)) (sa_nil)))).so) ((se_call 46 (sa_cons (se_ix (so_var 0) (so_var 4)) (sa_cons (se_ix (so_var 1) ((se_int).so)) (sa_nil)))).so))))) (sss_one (ss_app 2 (se_tup (sa_cons (se_var 3) (sa_cons (se_var 4) (sa_nil)))))) (sss_nil)))))) (sss_one (ss_ret (se_if (st_ne (so_var 2) (((sfr_lst (sa_nil)).se).so)) (se_ix (so_var 2) ((se_int).so)) (se_non)))))
/-! 48 _law_keeps(table, rules) : 0:table 1:rules 2:rule -/
def N__law_keeps : List Str := ["table", "rules", "rule"]
def b__law_keeps (c : Nat → List D → M D) : SF := sRet (eOp2 eqD (eLst (cComp [2] (iAny (eOpd 1)) (gName 2) (tVal (eOp1 isNotNoneD (eCall (c 47) (aCons (eVar 0) (aCons (eVar 2) (aNil)))))) (eLit (.int 1)))) (eLst (aNil)))
theorem sc__law_keeps : FnScope N__law_keeps ["table", "rules"] (defScope (topS 67)) := ⟨rfl, rfl, rfl, by decide +kernel, rfl, by decide +kernel, by decide +kernel⟩
theorem d__law_keeps (c : Nat → List D → M D) : SSs ⟨N__law_keeps, defScope (topS 67), fun _ => true⟩ (tab c) (defBody (topS 67)) (b__law_keeps c) := sss_one (ss_ret (se_eq (((sfr_comp [("rule", 2)] (sic_any (so_var 1)) (sg_name 2) (sts_one (st_notN ((se_call 47 (sa_cons (se_var 0) (sa_cons (se_var 2) (sa_nil)))).so))) (se_int)).se).so) (((sfr_lst (sa_nil)).se).so)))
/-! 49 _law_proof(rules, rule) : 0:rules 1:rule 2:known 3:found 4:turn 5:good 6:name 7:at -/
def N__law_proof : List Str := ["rules", "rule", "known", "found", "turn", "good", "name", "at"]
def b__law_proof (c : Nat → List D → M D) : SF := sSeq (sPar 2 3 (xVal (eLst (lCall listD (aCons (eOp2 ixD (eOpd 1) (eLit (.int 0))) aNil)))) (xVal (eTup (aNil)))) (sSeq (sFor (lCall range1D (aCons (eOp2 addD (eCall lenD (aCons (eOpd 0) aNil)) (eLit (.int 1))) (aNil))) (gName 4) (sSeq (sIf (tVal (eOp2 eqD (eLst (cComp [6] (iAny (eOp2 ixD (eOpd 1) (eLit (.int 1)))) (gName 6) (tVal (eOp2 notInD (eOpd 6) (eOpd 2))) (eVar 6))) (eLst (aNil)))) (sRet (eVar 3)) (sNil)) (sSeq (sSet 5 (xVal (eLst (cComp [7] (lCall range1D (aCons (eCall lenD (aCons (eOpd 0) aNil)) (aNil))) (gName 7) (tAnd (tVal (eOp2 eqD (eLst (cComp [6] (iAny (eOp2 ixD (eOp2 ixD (eOpd 0) (eOpd 7)) (eLit (.int 0)))) (gName 6) (tVal (eOp2 notInD (eOpd 6) (eOpd 2))) (eLit (.int 1)))) (eLst (aNil)))) (tVal (eOp2 neD (eLst (cComp [6] (iAny (eOp2 ixD (eOp2 ixD (eOpd 0) (eOpd 7)) (eLit (.int 1)))) (gName 6) (tVal (eOp2 notInD (eOpd 6) (eOpd 2))) (eLit (.int 1)))) (eLst (aNil))))) (eVar 7))))) (sSeq (sIf (tVal (eOp2 eqD (eOpd 5) (eLst (aNil)))) (sRet (eLit .non)) (sNil)) (sPar 2 3 (xVal (eOp2 addD (eOpd 2) (eLst (lCall listD (aCons (eOp2 ixD (eOp2 ixD (eOpd 0) (eOp2 ixD (eOpd 5) (eLit (.int 0)))) (eLit (.int 1))) aNil))))) (xVal (eOp2 addD (eOpd 3) (eTup (aCons (eOp2 ixD (eOpd 5) (eLit (.int 0))) (aNil)))))))))) (sRet (eLit .non)))
theorem sc__law_proof : FnScope N__law_proof ["rules", "rule"] (defScope (topS 68)) := ⟨rfl, rfl, rfl, by decide +kernel, rfl, by decide +kernel, by decide +kernel⟩
theorem d__law_proof (c : Nat → List D → M D) : SSs ⟨N__law_proof, defScope (topS 68), fun _ => true⟩ (tab c) (defBody (topS 68)) (b__law_proof c) := sss_cons (ss_parK 2 3 (((sfr_list ((se_ix (so_var 1) ((se_int).so)).so)).se).sx) ((se_tup (sa_nil)).sx)) (sss_cons (ss_for (vs := [4]) (si_range1 ((se_add ((se_len (so_var 0)).so) ((se_int).so)).so)) (sg_name 4) (sss_cons (ss_if (st_eq (((sfr_comp [("name", 6)] (sic_any ((se_ix (so_var 1) ((se_int).so)).so)) (sg_name 6) (sts_one (st_notIn (so_var 6) (so_var 2))) (se_var 6)).se).so) (((sfr_lst (sa_nil)).se).so)) (sss_one (ss_ret (se_var 3))) (sss_nil)) (sss_cons (ss_setCv 5 [("at", 7)] ((si_range1 ((se_len (so_var 0)).so)).toC) (sg_name 7) (sts_one (st_w (sw_and (st_eq (((sfr_comp [("name", 6)] (sic_any ((se_ix ((se_ix (so_var 0) (so_var 7)).so) ((se_int).so)).so)) (sg_name 6) (sts_one (st_notIn (so_var 6) (so_var 2))) (se_int)).se).so) (((sfr_lst (sa_nil)).se).so)) (sw_and1 (st_ne (((sfr_comp [("name", 6)] (sic_any ((se_ix ((se_ix (so_var 0) (so_var 7)).so) ((se_int).so)).so)) (sg_name 6) (sts_one (st_notIn (so_var 6) (so_var 2))) (se_int)).se).so) (((sfr_lst (sa_nil)).se).so)))))) (se_var 7)) (sss_cons (ss_if (st_eq (so_var 5) (((sfr_lst (sa_nil)).se).so)) (sss_one (ss_ret (se_non))) (sss_nil)) (sss_one (ss_parK 2 3 ((se_add (so_var 2) (((sfr_list ((se_ix ((se_ix (so_var 0) ((se_ix (so_var 5) ((se_int).so)).so)).so) ((se_int).so)).so)).se).so)).sx) ((se_add (so_var 3) ((se_tup (sa_cons (se_ix (so_var 5) ((se_int).so)) (sa_nil))).so)).sx))))))) (sss_one (ss_ret (se_non))))
/-! 50 _law_is_proof(rules, rule, value) : 0:rules 1:rule 2:value 3:known 4:at 5:name -/
def N__law_is_proof : List Str := ["rules", "rule", "value", "known", "at", "name"]
def b__law_is_proof (c : Nat → List D → M D) : SF := sSeq (sSet 3 (xVal (eLst (lCall listD (aCons (eOp2 ixD (eOpd 1) (eLit (.int 0))) aNil))))) (sSeq (sFor (iAny (eVar 2)) (gName 4) (sSeq (sIf (tOr (tNot (tVal (eChain leD ltD (eLit (.int 0)) (eOpd 4) (eCall lenD (aCons (eOpd 0) aNil))))) (tVal (eOp2 neD (eLst (cComp [5] (iAny (eOp2 ixD (eOp2 ixD (eOpd 0) (eOpd 4)) (eLit (.int 0)))) (gName 5) (tVal (eOp2 notInD (eOpd 5) (eOpd 3))) (eVar 5))) (eLst (aNil))))) (sRet (eLit (.bl false))) (sNil)) (sSet 3 (xVal (eOp2 addD (eOpd 3) (eLst (lCall listD (aCons (eOp2 ixD (eOp2 ixD (eOpd 0) (eOpd 4)) (eLit (.int 1))) aNil)))))))) (sRet (eOp2 eqD (eLst (cComp [5] (iAny (eOp2 ixD (eOpd 1) (eLit (.int 1)))) (gName 5) (tVal (eOp2 notInD (eOpd 5) (eOpd 3))) (eVar 5))) (eLst (aNil)))))
theorem sc__law_is_proof : FnScope N__law_is_proof ["rules", "rule", "value"] (defScope (topS 69)) := ⟨rfl, rfl, rfl, by decide +kernel, rfl, by decide +kernel, by decide +kernel⟩
theorem d__law_is_proof (c : Nat → List D → M D) : SSs ⟨N__law_is_proof, defScope (topS 69), fun _ => true⟩ (tab c) (defBody (topS 69)) (b__law_is_proof c) := sss_cons (ss_set 3 (((sfr_list ((se_ix (so_var 1) ((se_int).so)).so)).se).sx)) (sss_cons (ss_for (vs := [4]) (si_any (se_var 2)) (sg_name 4) (sss_cons (ss_if (st_w (sw_or (st_not (st_lelt ((se_int).so) (so_var 4) ((se_len (so_var 0)).so))) (sw_or1 (st_ne (((sfr_comp [("name", 5)] (sic_any ((se_ix ((se_ix (so_var 0) (so_var 4)).so) ((se_int).so)).so)) (sg_name 5) (sts_one (st_notIn (so_var 5) (so_var 3))) (se_var 5)).se).so) (((sfr_lst (sa_nil)).se).so))))) (sss_one (ss_ret (se_bl))) (sss_nil)) (sss_one (ss_set 3 ((se_add (so_var 3) (((sfr_list ((se_ix ((se_ix (so_var 0) (so_var 4)).so) ((se_int).so)).so)).se).so)).sx))))) (sss_one (ss_ret (se_eq (((sfr_comp [("name", 5)] (sic_any ((se_ix (so_var 1) ((se_int).so)).so)) (sg_name 5) (sts_one (st_notIn (so_var 5) (so_var 3))) (se_var 5)).se).so) (((sfr_lst (sa_nil)).se).so)))))
/-! 51 _law_odds_right(names, rules) : 0:names 1:rules 2:odds 3:one 4:far 5:bads 6:at 7:odd 8:bad -/
def N__law_odds_right : List Str := ["names", "rules", "odds", "one", "far", "bads", "at", "odd", "bad"]
def b__law_odds_right (c : Nat → List D → M D) : SF := sSeq (sSet 2 (xVal (eLst (aCons (eLit .non) (aCons (eTup (aNil)) (aCons (eLst (lCall listD (aCons (eOpd 0) aNil))) (aCons (eOp2 addD (eOpd 0) (eSlice (eOpd 0) (pNone) (pSome (eLit (.int 1))))) (aCons (eTup (aCons (eLit (.str "b")) (aCons (eLit (.str "a")) (aNil)))) (aCons (eTup (aCons (eLit (.str "A")) (aNil))) (aCons (eTup (aCons (eLit (.str "a")) (aCons (eLit (.int 1)) (aNil)))) (aCons (eLit (.str "ab")) (aCons (eCall tupleD (aCons (eLst (cComp [6] (lCall range1D (aCons (eLit (.int 9)) (aNil))) (gName 6) (tYes) (eOp2 addD (eLit (.str "a")) (eCall strD (aCons (eOpd 6) aNil))))) aNil)) (aCons (eTup (aCons (eLit .non) (aNil))) (aNil)))))))))))))) (sSeq (sIf (tOr (tVal (eOp2 neD (eLst (cComp [7] (iAny (eOpd 2)) (gName 7) (tVal (eOp2 isNotBlD (eCall (c 29) (aCons (eVar 7) (aNil))) (eLit (.bl false)))) (eVar 7))) (eLst (aNil)))) (tVal (eOp2 isNotBlD (eCall (c 29) (aCons (eCall tupleD (aCons (eLst (cComp [6] (lCall range1D (aCons (eLit (.int 8)) (aNil))) (gName 6) (tYes) (eOp2 addD (eLit (.str "a")) (eCall strD (aCons (eOpd 6) aNil))))) aNil)) (aNil))) (eLit (.bl true))))) (sRet (eLit (.bl false))) (sNil)) (sSeq (sPar 3 4 (xVal (eSlice (eOpd 0) (pNone) (pSome (eLit (.int 1))))) (xVal (eTup (aCons (eLit (.str "zz")) (aNil))))) (sSeq (sSet 5 (xVal (eLst (aCons (eLit .non) (aCons (eTup (aCons (eVar 3) (aNil))) (aCons (eLst (aCons (eVar 3) (aCons (eVar 3) (aNil)))) (aCons (eTup (aCons (eVar 3) (aCons (eTup (aNil)) (aNil)))) (aCons (eTup (aCons (eVar 3) (aCons (eVar 3) (aCons (eVar 3) (aNil))))) (aCons (eTup (aCons (eVar 4) (aCons (eVar 3) (aNil)))) (aCons (eTup (aCons (eVar 3) (aCons (eVar 4) (aNil)))) (aCons (eTup (aCons (eVar 3) (aCons (eLst (lCall listD (aCons (eOpd 3) aNil))) (aNil)))) (aCons (eTup (aCons (eLst (lCall listD (aCons (eOpd 3) aNil))) (aCons (eVar 3) (aNil)))) (aCons (eTup (aCons (eOp2 mulD (eOpd 3) (eLit (.int 2))) (aCons (eVar 3) (aNil)))) (aCons (eTup (aCons (eVar 3) (aCons (eOp2 mulD (eOpd 3) (eLit (.int 2))) (aNil)))) (aCons (eTup (aCons (eLit .non) (aCons (eVar 3) (aNil)))) (aCons (eTup (aCons (eVar 3) (aCons (eOp2 ixD (eOpd 0) (eLit (.int 0))) (aNil)))) (aNil))))))))))))))))) (sSeq (sSet 2 (xVal (eOp2 addD (eLst (aCons (eLit .non) (aCons (eLst (lCall listD (aCons (eOpd 1) aNil))) (aCons (eTup (aCons (eVar 3) (aCons (eVar 3) (aNil)))) (aCons (eOp2 mulD (eTup (aCons (eTup (aCons (eVar 3) (aCons (eVar 3) (aNil)))) (aNil))) (eLit (.int 13))) (aCons (eLit (.int 5)) (aNil))))))) (eLst (cComp [8] (iAny (eOpd 5)) (gName 8) (tYes) (eOp2 addD (eSlice (eOpd 1) (pNone) (pSome (eLit (.int 3)))) (eTup (aCons (eVar 8) (aNil))))))))) (sRet (eAndV (eOp2 eqD (eLst (cComp [7] (iAny (eOpd 2)) (gName 7) (tVal (eOp2 isNotBlD (eCall (c 30) (aCons (eVar 0) (aCons (eVar 7) (aNil)))) (eLit (.bl false)))) (eVar 7))) (eLst (aNil))) (eAndV (eOp2 isBlD (eCall (c 30) (aCons (eVar 0) (aCons (eOp2 mulD (eTup (aCons (eTup (aCons (eVar 3) (aCons (eVar 3) (aNil)))) (aNil))) (eLit (.int 12))) (aNil)))) (eLit (.bl true))) (eOp2 isBlD (eCall (c 30) (aCons (eVar 0) (aCons (eVar 1) (aNil)))) (eLit (.bl true))))))))))
theorem sc__law_odds_right : FnScope N__law_odds_right ["names", "rules"] (defScope (topS 70)) := ⟨rfl, rfl, rfl, by decide +kernel, rfl, by decide +kernel, by decide +kernel⟩
theorem d__law_odds_right (c : Nat → List D → M D) : SSs ⟨N__law_odds_right, defScope (topS 70), fun _ => true⟩ (tab c) (defBody (topS 70)) (b__law_odds_right c) := sss_cons (ss_set 2 (((sfr_lst (sa_cons (se_non) (sa_cons (se_tup (sa_nil)) (sa_cons ((sfr_list (so_var 0)).se) (sa_cons (se_add (so_var 0) ((se_slice (so_var 0) (spo_none) (spo_some ((se_int).so))).so)) (sa_cons (se_tup (sa_cons (se_str) (sa_cons (se_str) (sa_nil)))) (sa_cons (se_tup (sa_cons (se_str) (sa_nil))) (sa_cons (se_tup (sa_cons (se_str) (sa_cons (se_int) (sa_nil)))) (sa_cons (se_str) (sa_cons (se_tuple (((sfr_comp [("at", 6)] ((si_range1 ((se_int).so)).toC) (sg_name 6) (sts_nil) (se_add ((se_str).so) ((se_str1 (so_var 6)).so))).se).so)) (sa_cons (se_tup (sa_cons (se_non) (sa_nil))) (sa_nil)))))))))))).se).sx)) (sss_cons (ss_if (st_w (sw_or (st_ne (((sfr_comp [("odd", 7)] (sic_any (so_var 2)) (sg_name 7) (sts_one (st_notB ((se_call 29 (sa_cons (se_var 7) (sa_nil))).so))) (se_var 7)).se).so) (((sfr_lst (sa_nil)).se).so)) (sw_or1 (st_notB ((se_call 29 (sa_cons (se_tuple (((sfr_comp [("at", 6)] ((si_range1 ((se_int).so)).toC) (sg_name 6) (sts_nil) (se_add ((se_str).so) ((se_str1 (so_var 6)).so))).se).so)) (sa_nil))).so))))) (sss_one (ss_ret (se_bl))) (sss_nil)) (sss_cons (ss_par 3 4 ((se_slice (so_var 0) (spo_none) (spo_some ((se_int).so))).sx) ((se_tup (sa_cons (se_str) (sa_nil))).sx)) (sss_cons (ss_set 5 (((sfr_lst (sa_cons (se_non) (sa_cons (se_tup (sa_cons (se_var 3) (sa_nil))) (sa_cons ((sfr_lst (sa_cons (se_var 3) (sa_cons (se_var 3) (sa_nil)))).se) (sa_cons (se_tup (sa_cons (se_var 3) (sa_cons (se_tup (sa_nil)) (sa_nil)))) (sa_cons (se_tup (sa_cons (se_var 3) (sa_cons (se_var 3) (sa_cons (se_var 3) (sa_nil))))) (sa_cons (se_tup (sa_cons (se_var 4) (sa_cons (se_var 3) (sa_nil)))) (sa_cons (se_tup (sa_cons (se_var 3) (sa_cons (se_var 4) (sa_nil)))) (sa_cons (se_tup (sa_cons (se_var 3) (sa_cons ((sfr_list (so_var 3)).se) (sa_nil)))) (sa_cons (se_tup (sa_cons ((sfr_list (so_var 3)).se) (sa_cons (se_var 3) (sa_nil)))) (sa_cons (se_tup (sa_cons (se_mul (so_var 3) ((se_int).so)) (sa_cons (se_var 3) (sa_nil)))) (sa_cons (se_tup (sa_cons (se_var 3) (sa_cons (se_mul (so_var 3) ((se_int).so)) (sa_nil)))) (sa_cons (se_tup (sa_cons (se_non) (sa_cons (se_var 3) (sa_nil)))) (sa_cons (se_tup (sa_cons (se_var 3) (sa_cons (se_ix (so_var 0) ((se_int).so)) (sa_nil)))) (sa_nil))))))))))))))).se).sx)) (sss_cons (ss_set 2 ((se_add (((sfr_lst (sa_cons (se_non) (sa_cons ((sfr_list (so_var 1)).se) (sa_cons (se_tup (sa_cons (se_var 3) (sa_cons (se_var 3) (sa_nil)))) (sa_cons (se_mul ((se_tup (sa_cons (se_tup (sa_cons (se_var 3) (sa_cons (se_var 3) (sa_nil)))) (sa_nil))).so) ((se_int).so)) (sa_cons (se_int) (sa_nil))))))).se).so) (((sfr_comp [("bad", 8)] (sic_any (so_var 5)) (sg_name 8) (sts_nil) (se_add ((se_slice (so_var 1) (spo_none) (spo_some ((se_int).so))).so) ((se_tup (sa_cons (se_var 8) (sa_nil))).so))).se).so)).sx)) (sss_one (ss_ret (se_and (se_eq (((sfr_comp [("odd", 7)] (sic_any (so_var 2)) (sg_name 7) (sts_one (st_notB ((se_call 30 (sa_cons (se_var 0) (sa_cons (se_var 7) (sa_nil)))).so))) (se_var 7)).se).so) (((sfr_lst (sa_nil)).se).so)) (se_and (se_isB ((se_call 30 (sa_cons (se_var 0) (sa_cons (se_mul ((se_tup (sa_cons (se_tup (sa_cons (se_var 3) (sa_cons (se_var 3) (sa_nil)))) (sa_nil))).so) ((se_int).so)) (sa_nil)))).so)) (se_one (se_isB ((se_call 30 (sa_cons (se_var 0) (sa_cons (se_var 1) (sa_nil)))).so)))))))))))
/-! 52 law(script) : 0:script 1:cup 2:turn 3:names 4:rules 5:some 6:rule 7:known 8:is_so 9:due 10:two 11:table 12:base 13:draws 14:values 15:value 16:odds 17:many 18:chain 19:gone 20:less 21:goal 22:told 23:name 24:more 25:odd 26:at -/
def N_law : List Str := ["script", "cup", "turn", "names", "rules", "some", "rule", "known", "is_so", "due", "two", "table", "base", "draws", "values", "value", "odds", "many", "chain", "gone", "less", "goal", "told", "name", "more", "odd", "at"]
def b_law (c : Nat → List D → M D) : SF := sSeq (sSet 1 (xVal (eCall (c 37) (aCons (eVar 0) (aNil))))) (sSeq (sFor (lCall range1D (aCons (eLit (.int 5)) (aNil))) (gName 2) (sSeq (sSet 3 (xVal (eCall (c 41) (aCons (eVar 1) (aCons (eLit (.int 6)) (aNil)))))) (sSeq (sSet 4 (xVal (eCall (c 43) (aCons (eVar 1) (aCons (eVar 3) (aCons (eLit (.int 6)) (aNil))))))) (sSeq (sPar 5 6 (xVal (eCall (c 42) (aCons (eVar 1) (aCons (eVar 3) (aCons (eLit (.int 0)) (aNil)))))) (xVal (eTup (aCons (eCall (c 42) (aCons (eVar 1) (aCons (eVar 3) (aCons (eLit (.int 1)) (aNil))))) (aCons (eCall (c 42) (aCons (eVar 1) (aCons (eVar 3) (aCons (eLit (.int 1)) (aNil))))) (aNil)))))) (sSeq (sIf (tOr (tNot (tVal (eCall (c 40) (aCons (eCall (c 31) (aCons (eVar 3) (aCons (eVar 4) (aCons (eVar 5) (aNil))))) (aCons (eCall (c 44) (aCons (eVar 4) (aCons (eVar 5) (aNil)))) (aNil)))))) (tNot (tVal (eCall (c 51) (aCons (eVar 3) (aCons (eVar 4) (aNil))))))) (sRet (eLit (.bl false))) (sNil)) (sSeq (sSet 7 (xVal (eCall (c 44) (aCons (eVar 4) (aCons (eOp2 ixD (eOpd 6) (eLit (.int 0))) (aNil)))))) (sSeq (sSet 8 (xVal (eOp2 eqD (eLst (cComp [23] (iAny (eOp2 ixD (eOpd 6) (eLit (.int 1)))) (gName 23) (tVal (eOp2 notInD (eOpd 23) (eOpd 7))) (eVar 23))) (eLst (aNil))))) (sSeq (sSet 9 (xVal (eCall (c 49) (aCons (eVar 4) (aCons (eVar 6) (aNil)))))) (sSeq (sIf (tOr (tNot (tVal (eCall (c 40) (aCons (eTup (aCons (eCall (c 32) (aCons (eVar 3) (aCons (eVar 4) (aCons (eVar 6) (aNil))))) (aCons (eCall (c 33) (aCons (eVar 3) (aCons (eVar 4) (aCons (eVar 6) (aNil))))) (aNil)))) (aCons (eTup (aCons (eVar 8) (aCons (eVar 9) (aNil)))) (aNil)))))) (tVal (eOp2 neD (eOpd 8) (eOp1 isNotNoneD (eOpd 9))))) (sRet (eLit (.bl false))) (sNil)) (sSeq (sSet 10 (xVal (eCall (c 35) (aCons (eVar 3) (aCons (eVar 4) (aCons (eVar 6) (aNil))))))) (sSeq (sIf (tVal (eVar 8)) (sIf (tOr (tVal (eOp1 isNotNoneD (eOpd 10))) (tVal (eOp2 isNotBlD (eCall (c 34) (aCons (eVar 3) (aCons (eVar 4) (aCons (eVar 6) (aCons (eVar 9) (aNil)))))) (eLit (.bl true))))) (sRet (eLit (.bl false))) (sNil)) (sSeq (sSet 11 (xVal (eTup (aCons (eCall (c 45) (aCons (eVar 3) (aCons (eOp2 mulD (eTup (aCons (eLit (.int 0)) (aNil))) (eCall lenD (aCons (eOpd 3) aNil))) (aNil)))) (aCons (eCall (c 45) (aCons (eVar 3) (aCons (eLst (cComp [23] (iAny (eOpd 3)) (gName 23) (tYes) (eIf (tVal (eOp2 inD (eOpd 23) (eOpd 7))) (eLit (.int 0)) (eLit (.int 1))))) (aNil)))) (aNil)))))) (sIf (tOr (tNot (tVal (eCall (c 40) (aCons (eVar 10) (aCons (eVar 11) (aNil)))))) (tOr (tNot (tVal (eCall (c 48) (aCons (eVar 11) (aCons (eVar 4) (aNil)))))) (tNot (tVal (eCall (c 40) (aCons (eCall (c 36) (aCons (eVar 3) (aCons (eVar 11) (aCons (eVar 6) (aNil))))) (aCons (eTup (aCons (eLit (.int 0)) (aCons (eLit (.int 1)) (aNil)))) (aNil)))))))) (sRet (eLit (.bl false))) (sNil)))) (sSeq (sSet 12 (xVal (eIf (tVal (eOp1 isNotNoneD (eOpd 9))) (eVar 9) (eTup (aNil))))) (sSeq (sSet 13 (xVal (eLst (cComp [24] (lCall range1D (aCons (eCall (c 38) (aCons (eVar 1) (aCons (eLit (.int 5)) (aNil)))) (aNil))) (gName 24) (tYes) (eCall (c 38) (aCons (eVar 1) (aCons (eOp2 addD (eCall lenD (aCons (eOpd 4) aNil)) (eLit (.int 1))) (aNil)))))))) (sSeq (sSet 14 (xVal (eLst (aCons (eVar 12) (aCons (eOp1 revD (eOpd 12)) (aCons (eOp2 addD (eOpd 12) (eOpd 12)) (aCons (eSlice (eOpd 12) (pSome (eLit (.int 1))) (pNone)) (aCons (eSlice (eOpd 12) (pNone) (pSome (eOp1 negD (eLit (.int 1))))) (aCons (eTup (aNil)) (aCons (eCall tupleD (aCons (eOpd 13) aNil)) (aCons (eTup (lCall range1D (aCons (eCall lenD (aCons (eOpd 4) aNil)) aNil))) (aCons (eOp2 mulD (eTup (lCall range1D (aCons (eCall lenD (aCons (eOpd 4) aNil)) aNil))) (eLit (.int 3))) (aNil))))))))))))) (sSeq (sFor (iAny (eVar 14)) (gName 15) (sIf (tNot (tVal (eCall (c 40) (aCons (eCall (c 34) (aCons (eVar 3) (aCons (eVar 4) (aCons (eVar 6) (aCons (eVar 15) (aNil)))))) (aCons (eCall (c 50) (aCons (eVar 4) (aCons (eVar 6) (aCons (eVar 15) (aNil))))) (aNil)))))) (sRet (eLit (.bl false))) (sNil))) (sSeq (sSet 16 (xVal (eLst (aCons (eLit .non) (aCons (eLst (lCall listD (aCons (eOpd 12) aNil))) (aCons (eOp2 addD (eOpd 12) (eTup (aCons (eLit .non) (aNil)))) (aCons (eOp2 addD (eOpd 12) (eTup (aCons (eCall lenD (aCons (eOpd 4) aNil)) (aNil)))) (aCons (eOp2 addD (eOpd 12) (eTup (aCons (eOp1 negD (eLit (.int 1))) (aNil)))) (aCons (eOp2 addD (eOpd 12) (eTup (aCons (eLit (.str "0")) (aNil)))) (aCons (eOp2 addD (eOpd 12) (eTup (aCons (eLit (.bl true)) (aNil)))) (aCons (eOp2 addD (eOpd 12) (eTup (aCons (eTup (aCons (eLit (.int 0)) (aNil))) (aNil)))) (aCons (eLit (.int 5)) (aNil))))))))))))) (sIf (tVal (eOp2 neD (eLst (cComp [25] (iAny (eOpd 16)) (gName 25) (tVal (eOp2 isNotBlD (eCall (c 34) (aCons (eVar 3) (aCons (eVar 4) (aCons (eVar 6) (aCons (eVar 25) (aNil)))))) (eLit (.bl false)))) (eVar 25))) (eLst (aNil)))) (sRet (eLit (.bl false))) (sNil)))))))))))))))))) (sSeq (sSet 17 (xVal (eOp2 addD (eLit (.int 2)) (eCall (c 38) (aCons (eVar 1) (aCons (eLit (.int 6)) (aNil))))))) (sSeq (sSet 3 (xVal (eCall tupleD (aCons (eLst (cComp [26] (lCall range1D (aCons (eOpd 17) (aNil))) (gName 26) (tYes) (eOp2 addD (eLit (.str "n")) (eCall strD (aCons (eOpd 26) aNil))))) aNil)))) (sSeq (sSet 18 (xVal (eCall tupleD (aCons (eLst (cComp [26] (lCall range3D (aCons (eOp2 subD (eOpd 17) (eLit (.int 2))) (aCons (eOp1 negD (eLit (.int 1))) (aCons (eOp1 negD (eLit (.int 1))) (aNil))))) (gName 26) (tYes) (eTup (aCons (eTup (aCons (eOp2 ixD (eOpd 3) (eOpd 26)) (aNil))) (aCons (eTup (aCons (eOp2 ixD (eOpd 3) (eOp2 addD (eOpd 26) (eLit (.int 1)))) (aNil))) (aNil)))))) aNil)))) (sSeq (sSet 19 (xVal (eCall (c 38) (aCons (eVar 1) (aCons (eOp2 subD (eOpd 17) (eLit (.int 1))) (aNil)))))) (sSeq (sPar 20 21 (xVal (eOp2 addD (eSlice (eOpd 18) (pNone) (pSome (eOpd 19))) (eSlice (eOpd 18) (pSome (eOp2 addD (eOpd 19) (eLit (.int 1)))) (pNone)))) (xVal (eTup (aCons (eTup (aCons (eOp2 ixD (eOpd 3) (eLit (.int 0))) (aNil))) (aCons (eTup (aCons (eOp2 ixD (eOpd 3) (eOp1 negD (eLit (.int 1)))) (aNil))) (aNil)))))) (sSeq (sSet 22 (xVal (eTup (aCons (eCall (c 33) (aCons (eVar 3) (aCons (eVar 18) (aCons (eVar 21) (aNil))))) (aCons (eCall (c 31) (aCons (eVar 3) (aCons (eVar 18) (aCons (eSlice (eOpd 3) (pNone) (pSome (eLit (.int 1)))) (aNil))))) (aCons (eCall (c 32) (aCons (eVar 3) (aCons (eVar 20) (aCons (eVar 21) (aNil))))) (aCons (eOp2 ixD (eCall (c 35) (aCons (eVar 3) (aCons (eVar 20) (aCons (eVar 21) (aNil))))) (eLit (.int 1))) (aNil)))))))) (sSeq (sSet 9 (xVal (eTup (aCons (eTup (lCall range3D (aCons (eOp2 subD (eOpd 17) (eLit (.int 2))) (aCons (eOp1 negD (eLit (.int 1))) (aCons (eOp1 negD (eLit (.int 1))) aNil))))) (aCons (eVar 3) (aCons (eLit (.bl false)) (aCons (eCall (c 45) (aCons (eVar 3) (aCons (eLst (cComp [26] (lCall range1D (aCons (eOpd 17) (aNil))) (gName 26) (tYes) (eIf (tVal (eOp2 ltD (eOpd 26) (eOp2 subD (eOp2 subD (eOpd 17) (eLit (.int 1))) (eOpd 19)))) (eLit (.int 0)) (eLit (.int 1))))) (aNil)))) (aNil)))))))) (sRet (eCall (c 40) (aCons (eVar 22) (aCons (eVar 9) (aNil)))))))))))))
theorem sc_law : FnScope N_law ["script"] (defScope (topS 71)) := ⟨rfl, rfl, rfl, by decide +kernel, rfl, by decide +kernel, by decide +kernel⟩
theorem d_law (c : Nat → List D → M D) : SSs ⟨N_law, defScope (topS 71), fun _ => true⟩ (tab c) (defBody (topS 71)) (b_law c) := sss_cons (ss_set 1 ((se_call 37 (sa_cons (se_var 0) (sa_nil))).sx)) (sss_cons (ss_for (vs := [2]) (si_range1 ((se_int).so)) (sg_name 2) (sss_cons (ss_set 3 ((se_call 41 (sa_cons (se_var 1) (sa_cons (se_int) (sa_nil)))).sx)) (sss_cons (ss_set 4 ((se_call 43 (sa_cons (se_var 1) (sa_cons (se_var 3) (sa_cons (se_int) (sa_nil))))).sx)) (sss_cons (ss_parK 5 6 ((se_call 42 (sa_cons (se_var 1) (sa_cons (se_var 3) (sa_cons (se_int) (sa_nil))))).sx) ((se_tup (sa_cons (se_call 42 (sa_cons (se_var 1) (sa_cons (se_var 3) (sa_cons (se_int) (sa_nil))))) (sa_cons (se_call 42 (sa_cons (se_var 1) (sa_cons (se_var 3) (sa_cons (se_int) (sa_nil))))) (sa_nil)))).sx)) (sss_cons (ss_if (st_w (sw_or (st_not (st_val (se_call 40 (sa_cons (se_call 31 (sa_cons (se_var 3) (sa_cons (se_var 4) (sa_cons (se_var 5) (sa_nil))))) (sa_cons (se_call 44 (sa_cons (se_var 4) (sa_cons (se_var 5) (sa_nil)))) (sa_nil)))))) (sw_or1 (st_not (st_val (se_call 51 (sa_cons (se_var 3) (sa_cons (se_var 4) (sa_nil))))))))) (sss_one (ss_ret (se_bl))) (sss_nil)) (sss_cons (ss_set 7 ((se_call 44 (sa_cons (se_var 4) (sa_cons (se_ix (so_var 6) ((se_int).so)) (sa_nil)))).sx)) (sss_cons (ss_set 8 ((se_eq (((sfr_comp [("name", 23)] (sic_any ((se_ix (so_var 6) ((se_int).so)).so)) (sg_name 23) (sts_one (st_notIn (so_var 23) (so_var 7))) (se_var 23)).se).so) (((sfr_lst (sa_nil)).se).so)).sx)) (sss_cons (ss_set 9 ((se_call 49 (sa_cons (se_var 4) (sa_cons (se_var 6) (sa_nil)))).sx)) (sss_cons (ss_if (st_w (sw_or (st_not (st_val (se_call 40 (sa_cons (se_tup (sa_cons (se_call 32 (sa_cons (se_var 3) (sa_cons (se_var 4) (sa_cons (se_var 6) (sa_nil))))) (sa_cons (se_call 33 (sa_cons (se_var 3) (sa_cons (se_var 4) (sa_cons (se_var 6) (sa_nil))))) (sa_nil)))) (sa_cons (se_tup (sa_cons (se_var 8) (sa_cons (se_var 9) (sa_nil)))) (sa_nil)))))) (sw_or1 (st_ne (so_var 8) ((se_notN (so_var 9)).so))))) (sss_one (ss_ret (se_bl))) (sss_nil)) (sss_cons (ss_set 10 ((se_call 35 (sa_cons (se_var 3) (sa_cons (se_var 4) (sa_cons (se_var 6) (sa_nil))))).sx)) (sss_cons (ss_if (st_val (se_var 8)) (sss_one (ss_if (st_w (sw_or (st_notN (so_var 10)) (sw_or1 (st_notB ((se_call 34 (sa_cons (se_var 3) (sa_cons (se_var 4) (sa_cons (se_var 6) (sa_cons (se_var 9) (sa_nil)))))).so))))) (sss_one (ss_ret (se_bl))) (sss_nil))) (sss_cons (ss_set 11 ((se_tup (sa_cons (se_call 45 (sa_cons (se_var 3) (sa_cons (se_mul ((se_tup (sa_cons (se_int) (sa_nil))).so) ((se_len (so_var 3)).so)) (sa_nil)))) (sa_cons (se_call 45 (sa_cons (se_var 3) (sa_cons ((sfr_comp [("name", 23)] (sic_any (so_var 3)) (sg_name 23) (sts_nil) (se_if (st_in (so_var 23) (so_var 7)) (se_int) (se_int))).se) (sa_nil)))) (sa_nil)))).sx)) (sss_one (ss_if (st_w (sw_or (st_not (st_val (se_call 40 (sa_cons (se_var 10) (sa_cons (se_var 11) (sa_nil)))))) (sw_or (st_not (st_val (se_call 48 (sa_cons (se_var 11) (sa_cons (se_var 4) (sa_nil)))))) (sw_or1 (st_not (st_val (se_call 40 (sa_cons (se_call 36 (sa_cons (se_var 3) (sa_cons (se_var 11) (sa_cons (se_var 6) (sa_nil))))) (sa_cons (se_tup (sa_cons (se_int) (sa_cons (se_int) (sa_nil)))) (sa_nil)))))))))) (sss_one (ss_ret (se_bl))) (sss_nil))))) (sss_cons (ss_set 12 ((se_if (st_notN (so_var 9)) (se_var 9) (se_tup (sa_nil))).sx)) (sss_cons (ss_setCv 13 [("more", 24)] ((si_range1 ((se_call 38 (sa_cons (se_var 1) (sa_cons (se_int) (sa_nil)))).so)).toC) (sg_name 24) (sts_nil) (se_call 38 (sa_cons (se_var 1) (sa_cons (se_add ((se_len (so_var 4)).so) ((se_int).so)) (sa_nil))))) (sss_cons (ss_set 14 (((sfr_lst (sa_cons (se_var 12) (sa_cons (se_rev (so_var 12)) (sa_cons (se_add (so_var 12) (so_var 12)) (sa_cons (se_slice (so_var 12) (spo_some ((se_int).so)) (spo_none)) (sa_cons (se_slice (so_var 12) (spo_none) (spo_some ((se_neg ((se_int).so)).so))) (sa_cons (se_tup (sa_nil)) (sa_cons (se_tuple (so_var 13)) (sa_cons (se_tupRange (srg_1 (se_len (so_var 4)))) (sa_cons (se_mul ((se_tupRange (srg_1 (se_len (so_var 4)))).so) ((se_int).so)) (sa_nil))))))))))).se).sx)) (sss_cons (ss_for (vs := [15]) (si_any (se_var 14)) (sg_name 15) (sss_one (ss_if (st_not (st_val (se_call 40 (sa_cons (se_call 34 (sa_cons (se_var 3) (sa_cons (se_var 4) (sa_cons (se_var 6) (sa_cons (se_var 15) (sa_nil)))))) (sa_cons (se_call 50 (sa_cons (se_var 4) (sa_cons (se_var 6) (sa_cons (se_var 15) (sa_nil))))) (sa_nil)))))) (sss_one (ss_ret (se_bl))) (sss_nil)))) (sss_cons (ss_set 16 (((sfr_lst (sa_cons (se_non) (sa_cons ((sfr_list (so_var 12)).se) (sa_cons (se_add (so_var 12) ((se_tup (sa_cons (se_non) (sa_nil))).so)) (sa_cons (se_add (so_var 12) ((se_tup (sa_cons (se_len (so_var 4)) (sa_nil))).so)) (sa_cons (se_add (so_var 12) ((se_tup (sa_cons (se_neg ((se_int).so)) (sa_nil))).so)) (sa_cons (se_add (so_var 12) ((se_tup (sa_cons (se_str) (sa_nil))).so)) (sa_cons (se_add (so_var 12) ((se_tup (sa_cons (se_bl) (sa_nil))).so)) (sa_cons (se_add (so_var 12) ((se_tup (sa_cons (se_tup (sa_cons (se_int) (sa_nil))) (sa_nil))).so)) (sa_cons (se_int) (sa_nil))))))))))).se).sx)) (sss_one (ss_if (st_ne (((sfr_comp [("odd", 25)] (sic_any (so_var 16)) (sg_name 25) (sts_one (st_notB ((se_call 34 (sa_cons (se_var 3) (sa_cons (se_var 4) (sa_cons (se_var 6) (sa_cons (se_var 25) (sa_nil)))))).so))) (se_var 25)).se).so) (((sfr_lst (sa_nil)).se).so)) (sss_one (ss_ret (se_bl))) (sss_nil))))))))))))))))))) (sss_cons (ss_set 17 ((se_add ((se_int).so) ((se_call 38 (sa_cons (se_var 1) (sa_cons (se_int) (sa_nil)))).so)).sx)) (sss_cons (ss_set 3 ((se_tuple (((sfr_comp [("at", 26)] ((si_range1 (so_var 17)).toC) (sg_name 26) (sts_nil) (se_add ((se_str).so) ((se_str1 (so_var 26)).so))).se).so)).sx)) (sss_cons (ss_set 18 ((se_tuple (((sfr_comp [("at", 26)] ((si_range3 ((se_sub (so_var 17) ((se_int).so)).so) ((se_neg ((se_int).so)).so) ((se_neg ((se_int).so)).so)).toC) (sg_name 26) (sts_nil) (se_tup (sa_cons (se_tup (sa_cons (se_ix (so_var 3) (so_var 26)) (sa_nil))) (sa_cons (se_tup (sa_cons (se_ix (so_var 3) ((se_add (so_var 26) ((se_int).so)).so)) (sa_nil))) (sa_nil))))).se).so)).sx)) (sss_cons (ss_set 19 ((se_call 38 (sa_cons (se_var 1) (sa_cons (se_sub (so_var 17) ((se_int).so)) (sa_nil)))).sx)) (sss_cons (ss_par 20 21 ((se_add ((se_slice (so_var 18) (spo_none) (spo_some (so_var 19))).so) ((se_slice (so_var 18) (spo_some ((se_add (so_var 19) ((se_int).so)).so)) (spo_none)).so)).sx) ((se_tup (sa_cons (se_tup (sa_cons (se_ix (so_var 3) ((se_int).so)) (sa_nil))) (sa_cons (se_tup (sa_cons (se_ix (so_var 3) ((se_neg ((se_int).so)).so)) (sa_nil))) (sa_nil)))).sx)) (sss_cons (ss_set 22 ((se_tup (sa_cons (se_call 33 (sa_cons (se_var 3) (sa_cons (se_var 18) (sa_cons (se_var 21) (sa_nil))))) (sa_cons (se_call 31 (sa_cons (se_var 3) (sa_cons (se_var 18) (sa_cons (se_slice (so_var 3) (spo_none) (spo_some ((se_int).so))) (sa_nil))))) (sa_cons (se_call 32 (sa_cons (se_var 3) (sa_cons (se_var 20) (sa_cons (se_var 21) (sa_nil))))) (sa_cons (se_ix ((se_call 35 (sa_cons (se_var 3) (sa_cons (se_var 20) (sa_cons (se_var 21) (sa_nil))))).so) ((se_int).so)) (sa_nil)))))).sx)) (sss_cons (ss_set 9 ((se_tup (sa_cons (se_tupRange3 (se_sub (so_var 17) ((se_int).so)) (se_neg ((se_int).so)) (se_neg ((se_int).so))) (sa_cons (se_var 3) (sa_cons (se_bl) (sa_cons (se_call 45 (sa_cons (se_var 3) (sa_cons ((sfr_comp [("at", 26)] ((si_range1 (so_var 17)).toC) (sg_name 26) (sts_nil) (se_if (st_lt (so_var 26) ((se_sub ((se_sub (so_var 17) ((se_int).so)).so) (so_var 19)).so)) (se_int) (se_int))).se) (sa_nil)))) (sa_nil)))))).sx)) (sss_one (ss_ret (se_call 40 (sa_cons (se_var 22) (sa_cons (se_var 9) (sa_nil))))))))))))))
def bodies (c : Nat → List D → M D) : Nat → List D → M D
  | 0 => runB 3 3 (b_is_whole c)
  | 1 => runB 3 3 (b_is_tuple_of c)
  | 2 => runB 1 2 (b_is_name c)
  | 3 => runB 1 1 (b_is_text_sign c)
  | 4 => runB 1 2 (b_fits_plain c)
  | 5 => runB 1 1 (b_is_knot c)
  | 6 => runB 1 3 (b_fits_fields c)
  | 7 => runB 1 2 (b_inner_of c)
  | 8 => runB 1 5 (b_fits_value c)
  | 9 => runB 1 1 (b_is_doc c)
  | 10 => runB 1 1 (b_kind_in c)
  | 11 => runB 2 2 (b_sign_of c)
  | 12 => runB 2 8 (b_compared c)
  | 13 => runB 2 2 (b_are_alike c)
  | 14 => runB 2 4 (b_fits_names c)
  | 15 => runB 3 4 (b_fits_some c)
  | 16 => runB 2 2 (b_fits_rule c)
  | 17 => runB 2 3 (b_fits_rules c)
  | 18 => runB 2 4 (b_fits_table c)
  | 19 => runB 1 1 (b_need_names c)
  | 20 => runB 2 2 (b_need_rules c)
  | 21 => runB 3 3 (b_need_rule c)
  | 22 => runB 2 2 (b_need_table c)
  | 23 => runB 2 7 (b_settled_by c)
  | 24 => runB 2 4 (b_is_settled c)
  | 25 => runB 2 3 (b_value_at c)
  | 26 => runB 3 4 (b_are_alike_at c)
  | 27 => runB 2 4 (b_breach_of c)
  | 28 => runB 2 2 (b_row_of c)
  | 29 => runB 1 1 (b_are_names c)
  | 30 => runB 2 2 (b_are_rules c)
  | 31 => runB 3 3 (b_settled c)
  | 32 => runB 3 3 (b_follows c)
  | 33 => runB 3 11 (b_proof c)
  | 34 => runB 4 7 (b_is_proof c)
  | 35 => runB 3 5 (b_against c)
  | 36 => runB 3 3 (b_breach c)
  | 37 => runB 1 2 (b__law_cup c)
  | 38 => runB 2 4 (b__law_roll c)
  | 39 => runB 2 2 (b__law_some c)
  | 40 => runB 2 3 (b__law_same c)
  | 41 => runB 2 2 (b__law_names c)
  | 42 => runB 3 5 (b__law_part c)
  | 43 => runB 3 4 (b__law_rules c)
  | 44 => runB 2 7 (b__law_settled c)
  | 45 => runB 2 3 (b__law_doc_of c)
  | 46 => runB 2 4 (b__law_values c)
  | 47 => runB 2 5 (b__law_breach c)
  | 48 => runB 2 3 (b__law_keeps c)
  | 49 => runB 2 8 (b__law_proof c)
  | 50 => runB 3 6 (b__law_is_proof c)
  | 51 => runB 2 9 (b__law_odds_right c)
  | 52 => runB 1 27 (b_law c)
  | _ => fun _ => M.bad
def callF : Nat → Nat → List D → M D
  | 0, _ => fun _ => M.bad
  | n + 1, i => bodies (callF n) i
end K82
end

section
set_option Elab.async false
set_option linter.all false
set_option maxRecDepth 100000
set_option autoImplicit false
namespace K82
open PySem PySem.Spec PyProof.Rows L2 RP
structure Facts (K : PySem.W.Frag) (mg : Str → Option Value) : Prop where
  f_is_whole : DefF K mg "is_whole" (topS 12) N_is_whole ["value", "low", "high"]
  f_is_tuple_of : DefF K mg "is_tuple_of" (topS 13) N_is_tuple_of ["value", "low", "high"]
  f_is_name : DefF K mg "is_name" (topS 14) N_is_name ["value"]
  f_is_text_sign : DefF K mg "is_text_sign" (topS 15) N_is_text_sign ["sign"]
  f_fits_plain : DefF K mg "fits_plain" (topS 16) N_fits_plain ["value"]
  f_is_knot : DefF K mg "is_knot" (topS 17) N_is_knot ["value"]
  f_fits_fields : DefF K mg "fits_fields" (topS 18) N_fits_fields ["fields"]
  f_inner_of : DefF K mg "inner_of" (topS 19) N_inner_of ["value"]
  f_fits_value : DefF K mg "fits_value" (topS 20) N_fits_value ["value"]
  f_is_doc : DefF K mg "is_doc" (topS 21) N_is_doc ["value"]
  f_kind_in : DefF K mg "kind_in" (topS 22) N_kind_in ["value"]
  f_sign_of : DefF K mg "sign_of" (topS 24) N_sign_of ["one", "other"]
  f_compared : DefF K mg "compared" (topS 25) N_compared ["one", "other"]
  f_are_alike : DefF K mg "are_alike" (topS 26) N_are_alike ["one", "other"]
  f_fits_names : DefF K mg "fits_names" (topS 31) N_fits_names ["value", "least"]
  f_fits_some : DefF K mg "fits_some" (topS 32) N_fits_some ["names", "value", "least"]
  f_fits_rule : DefF K mg "fits_rule" (topS 33) N_fits_rule ["names", "value"]
  f_fits_rules : DefF K mg "fits_rules" (topS 34) N_fits_rules ["names", "value"]
  f_fits_table : DefF K mg "fits_table" (topS 35) N_fits_table ["names", "value"]
  f_need_names : DefF K mg "need_names" (topS 36) N_need_names ["names"]
  f_need_rules : DefF K mg "need_rules" (topS 37) N_need_rules ["names", "rules"]
  f_need_rule : DefF K mg "need_rule" (topS 38) N_need_rule ["names", "rules", "rule"]
  f_need_table : DefF K mg "need_table" (topS 39) N_need_table ["names", "table"]
  f_settled_by : DefF K mg "settled_by" (topS 40) N_settled_by ["rules", "some"]
  f_is_settled : DefF K mg "is_settled" (topS 41) N_is_settled ["rules", "rule"]
  f_value_at : DefF K mg "value_at" (topS 42) N_value_at ["document", "name"]
  f_are_alike_at : DefF K mg "are_alike_at" (topS 43) N_are_alike_at ["one", "other", "names"]
  f_breach_of : DefF K mg "breach_of" (topS 44) N_breach_of ["table", "rule"]
  f_row_of : DefF K mg "row_of" (topS 45) N_row_of ["names", "numbers"]
  f_are_names : DefF K mg "are_names" (topS 46) N_are_names ["value"]
  f_are_rules : DefF K mg "are_rules" (topS 47) N_are_rules ["names", "value"]
  f_settled : DefF K mg "settled" (topS 48) N_settled ["names", "rules", "some"]
  f_follows : DefF K mg "follows" (topS 49) N_follows ["names", "rules", "rule"]
  f_proof : DefF K mg "proof" (topS 50) N_proof ["names", "rules", "rule"]
  f_is_proof : DefF K mg "is_proof" (topS 51) N_is_proof ["names", "rules", "rule", "value"]
  f_against : DefF K mg "against" (topS 52) N_against ["names", "rules", "rule"]
  f_breach : DefF K mg "breach" (topS 53) N_breach ["names", "table", "rule"]
  f__law_cup : DefF K mg "_law_cup" (topS 55) N__law_cup ["script"]
  f__law_roll : DefF K mg "_law_roll" (topS 56) N__law_roll ["cup", "many"]
  f__law_some : DefF K mg "_law_some" (topS 57) N__law_some ["cup", "things"]
  f__law_same : DefF K mg "_law_same" (topS 58) N__law_same ["told", "due"]
  f__law_names : DefF K mg "_law_names" (topS 60) N__law_names ["cup", "most"]
  f__law_part : DefF K mg "_law_part" (topS 61) N__law_part ["cup", "names", "least"]
  f__law_rules : DefF K mg "_law_rules" (topS 62) N__law_rules ["cup", "names", "most"]
  f__law_settled : DefF K mg "_law_settled" (topS 63) N__law_settled ["rules", "some"]
  f__law_doc_of : DefF K mg "_law_doc_of" (topS 64) N__law_doc_of ["names", "values"]
  f__law_values : DefF K mg "_law_values" (topS 65) N__law_values ["document", "some"]
  f__law_breach : DefF K mg "_law_breach" (topS 66) N__law_breach ["table", "rule"]
  f__law_keeps : DefF K mg "_law_keeps" (topS 67) N__law_keeps ["table", "rules"]
  f__law_proof : DefF K mg "_law_proof" (topS 68) N__law_proof ["rules", "rule"]
  f__law_is_proof : DefF K mg "_law_is_proof" (topS 69) N__law_is_proof ["rules", "rule", "value"]
  f__law_odds_right : DefF K mg "_law_odds_right" (topS 70) N__law_odds_right ["names", "rules"]
  f_law : DefF K mg "law" (topS 71) N_law ["script"]
  blt : ∀ x ∈ bltNames, mg x = none
  gl : ∀ p ∈ gl, ∃ v u, mg p.1 = some u ∧ RelV v u ∧ (∀ m G, Rel K m G p.2 v) ∧ GlT K p.2 v
theorem tab_ok {P : Program} {w : World} {K : PySem.W.Frag} {mg : Str → Option Value} {base : Heap} (F : Facts K mg) : ∀ k, TabOk P w K mg base k (tab (callF k))
  | 0 => ⟨F.blt, F.gl, all_cons (row_zero F.f_is_whole) (all_cons (row_zero F.f_is_tuple_of) (all_cons (row_zero F.f_is_name) (all_cons (row_zero F.f_is_text_sign) (all_cons (row_zero F.f_fits_plain) (all_cons (row_zero F.f_is_knot) (all_cons (row_zero F.f_fits_fields) (all_cons (row_zero F.f_inner_of) (all_cons (row_zero F.f_fits_value) (all_cons (row_zero F.f_is_doc) (all_cons (row_zero F.f_kind_in) (all_cons (row_zero F.f_sign_of) (all_cons (row_zero F.f_compared) (all_cons (row_zero F.f_are_alike) (all_cons (row_zero F.f_fits_names) (all_cons (row_zero F.f_fits_some) (all_cons (row_zero F.f_fits_rule) (all_cons (row_zero F.f_fits_rules) (all_cons (row_zero F.f_fits_table) (all_cons (row_zero F.f_need_names) (all_cons (row_zero F.f_need_rules) (all_cons (row_zero F.f_need_rule) (all_cons (row_zero F.f_need_table) (all_cons (row_zero F.f_settled_by) (all_cons (row_zero F.f_is_settled) (all_cons (row_zero F.f_value_at) (all_cons (row_zero F.f_are_alike_at) (all_cons (row_zero F.f_breach_of) (all_cons (row_zero F.f_row_of) (all_cons (row_zero F.f_are_names) (all_cons (row_zero F.f_are_rules) (all_cons (row_zero F.f_settled) (all_cons (row_zero F.f_follows) (all_cons (row_zero F.f_proof) (all_cons (row_zero F.f_is_proof) (all_cons (row_zero F.f_against) (all_cons (row_zero F.f_breach) (all_cons (row_zero F.f__law_cup) (all_cons (row_zero F.f__law_roll) (all_cons (row_zero F.f__law_some) (all_cons (row_zero F.f__law_same) (all_cons (row_zero F.f__law_names) (all_cons (row_zero F.f__law_part) (all_cons (row_zero F.f__law_rules) (all_cons (row_zero F.f__law_settled) (all_cons (row_zero F.f__law_doc_of) (all_cons (row_zero F.f__law_values) (all_cons (row_zero F.f__law_breach) (all_cons (row_zero F.f__law_keeps) (all_cons (row_zero F.f__law_proof) (all_cons (row_zero F.f__law_is_proof) (all_cons (row_zero F.f__law_odds_right) (all_cons (row_zero F.f_law) (all_nil)))))))))))))))))))))))))))))))))))))))))))))))))))))⟩
  | k + 1 => by
    have t := tab_ok (P := P) (w := w) (base := base) F k
    exact ⟨F.blt, F.gl, all_cons (row_succ F.f_is_whole (d_is_whole (callF k)) t 3 3 rfl rfl) (all_cons (row_succ F.f_is_tuple_of (d_is_tuple_of (callF k)) t 3 3 rfl rfl) (all_cons (row_succ F.f_is_name (d_is_name (callF k)) t 1 2 rfl rfl) (all_cons (row_succ F.f_is_text_sign (d_is_text_sign (callF k)) t 1 1 rfl rfl) (all_cons (row_succ F.f_fits_plain (d_fits_plain (callF k)) t 1 2 rfl rfl) (all_cons (row_succ F.f_is_knot (d_is_knot (callF k)) t 1 1 rfl rfl) (all_cons (row_succ F.f_fits_fields (d_fits_fields (callF k)) t 1 3 rfl rfl) (all_cons (row_succ F.f_inner_of (d_inner_of (callF k)) t 1 2 rfl rfl) (all_cons (row_succ F.f_fits_value (d_fits_value (callF k)) t 1 5 rfl rfl) (all_cons (row_succ F.f_is_doc (d_is_doc (callF k)) t 1 1 rfl rfl) (all_cons (row_succ F.f_kind_in (d_kind_in (callF k)) t 1 1 rfl rfl) (all_cons (row_succ F.f_sign_of (d_sign_of (callF k)) t 2 2 rfl rfl) (all_cons (row_succ F.f_compared (d_compared (callF k)) t 2 8 rfl rfl) (all_cons (row_succ F.f_are_alike (d_are_alike (callF k)) t 2 2 rfl rfl) (all_cons (row_succ F.f_fits_names (d_fits_names (callF k)) t 2 4 rfl rfl) (all_cons (row_succ F.f_fits_some (d_fits_some (callF k)) t 3 4 rfl rfl) (all_cons (row_succ F.f_fits_rule (d_fits_rule (callF k)) t 2 2 rfl rfl) (all_cons (row_succ F.f_fits_rules (d_fits_rules (callF k)) t 2 3 rfl rfl) (all_cons (row_succ F.f_fits_table (d_fits_table (callF k)) t 2 4 rfl rfl) (all_cons (row_succ F.f_need_names (d_need_names (callF k)) t 1 1 rfl rfl) (all_cons (row_succ F.f_need_rules (d_need_rules (callF k)) t 2 2 rfl rfl) (all_cons (row_succ F.f_need_rule (d_need_rule (callF k)) t 3 3 rfl rfl) (all_cons (row_succ F.f_need_table (d_need_table (callF k)) t 2 2 rfl rfl) (all_cons (row_succ F.f_settled_by (d_settled_by (callF k)) t 2 7 rfl rfl) (all_cons (row_succ F.f_is_settled (d_is_settled (callF k)) t 2 4 rfl rfl) (all_cons (row_succ F.f_value_at (d_value_at (callF k)) t 2 3 rfl rfl) (all_cons (row_succ F.f_are_alike_at (d_are_alike_at (callF k)) t 3 4 rfl rfl) (all_cons (row_succ F.f_breach_of (d_breach_of (callF k)) t 2 4 rfl rfl) (all_cons (row_succ F.f_row_of (d_row_of (callF k)) t 2 2 rfl rfl) (all_cons (row_succ F.f_are_names (d_are_names (callF k)) t 1 1 rfl rfl) (all_cons (row_succ F.f_are_rules (d_are_rules (callF k)) t 2 2 rfl rfl) (all_cons (row_succ F.f_settled (d_settled (callF k)) t 3 3 rfl rfl) (all_cons (row_succ F.f_follows (d_follows (callF k)) t 3 3 rfl rfl) (all_cons (row_succ F.f_proof (d_proof (callF k)) t 3 11 rfl rfl) (all_cons (row_succ F.f_is_proof (d_is_proof (callF k)) t 4 7 rfl rfl) (all_cons (row_succ F.f_against (d_against (callF k)) t 3 5 rfl rfl) (all_cons (row_succ F.f_breach (d_breach (callF k)) t 3 3 rfl rfl) (all_cons (row_succ F.f__law_cup (d__law_cup (callF k)) t 1 2 rfl rfl) (all_cons (row_succ F.f__law_roll (d__law_roll (callF k)) t 2 4 rfl rfl) (all_cons (row_succ F.f__law_some (d__law_some (callF k)) t 2 2 rfl rfl) (all_cons (row_succ F.f__law_same (d__law_same (callF k)) t 2 3 rfl rfl) (all_cons (row_succ F.f__law_names (d__law_names (callF k)) t 2 2 rfl rfl) (all_cons (row_succ F.f__law_part (d__law_part (callF k)) t 3 5 rfl rfl) (all_cons (row_succ F.f__law_rules (d__law_rules (callF k)) t 3 4 rfl rfl) (all_cons (row_succ F.f__law_settled (d__law_settled (callF k)) t 2 7 rfl rfl) (all_cons (row_succ F.f__law_doc_of (d__law_doc_of (callF k)) t 2 3 rfl rfl) (all_cons (row_succ F.f__law_values (d__law_values (callF k)) t 2 4 rfl rfl) (all_cons (row_succ F.f__law_breach (d__law_breach (callF k)) t 2 5 rfl rfl) (all_cons (row_succ F.f__law_keeps (d__law_keeps (callF k)) t 2 3 rfl rfl) (all_cons (row_succ F.f__law_proof (d__law_proof (callF k)) t 2 8 rfl rfl) (all_cons (row_succ F.f__law_is_proof (d__law_is_proof (callF k)) t 3 6 rfl rfl) (all_cons (row_succ F.f__law_odds_right (d__law_odds_right (callF k)) t 2 9 rfl rfl) (all_cons (row_succ F.f_law (d_law (callF k)) t 1 27 rfl rfl) (all_nil)))))))))))))))))))))))))))))))))))))))))))))))))))))⟩
set_option maxHeartbeats 4000000
theorem facts_mk {K : PySem.W.Frag} {h : Heap} {mg : Str → Option Value} (X : K.In h) (G : h.Ns mainGlobals mg)
    {f0 : Addr} {od0 an0 : Option Addr} {sl0 : Array (Option Value)} {oc0 kV0 dc0 pm0 cd0 ct0 : Value}
    {f1 : Addr} {od1 an1 : Option Addr} {sl1 : Array (Option Value)} {oc1 kV1 dc1 pm1 cd1 ct1 : Value}
    {f2 : Addr} {od2 an2 : Option Addr} {sl2 : Array (Option Value)} {oc2 kV2 dc2 pm2 cd2 ct2 : Value}
    {f3 : Addr} {od3 an3 : Option Addr} {sl3 : Array (Option Value)} {oc3 kV3 dc3 pm3 cd3 ct3 : Value}
    {f4 : Addr} {od4 an4 : Option Addr} {sl4 : Array (Option Value)} {oc4 kV4 dc4 pm4 cd4 ct4 : Value}
    {f5 : Addr} {od5 an5 : Option Addr} {sl5 : Array (Option Value)} {oc5 kV5 dc5 pm5 cd5 ct5 : Value}
    {f6 : Addr} {od6 an6 : Option Addr} {sl6 : Array (Option Value)} {oc6 kV6 dc6 pm6 cd6 ct6 : Value}
    {f7 : Addr} {od7 an7 : Option Addr} {sl7 : Array (Option Value)} {oc7 kV7 dc7 pm7 cd7 ct7 : Value}
    {f8 : Addr} {od8 an8 : Option Addr} {sl8 : Array (Option Value)} {oc8 kV8 dc8 pm8 cd8 ct8 : Value}
    {f9 : Addr} {od9 an9 : Option Addr} {sl9 : Array (Option Value)} {oc9 kV9 dc9 pm9 cd9 ct9 : Value}
    {f10 : Addr} {od10 an10 : Option Addr} {sl10 : Array (Option Value)} {oc10 kV10 dc10 pm10 cd10 ct10 : Value}
    {f11 : Addr} {od11 an11 : Option Addr} {sl11 : Array (Option Value)} {oc11 kV11 dc11 pm11 cd11 ct11 : Value}
    {f12 : Addr} {od12 an12 : Option Addr} {sl12 : Array (Option Value)} {oc12 kV12 dc12 pm12 cd12 ct12 : Value}
    {f13 : Addr} {od13 an13 : Option Addr} {sl13 : Array (Option Value)} {oc13 kV13 dc13 pm13 cd13 ct13 : Value}
    {f14 : Addr} {od14 an14 : Option Addr} {sl14 : Array (Option Value)} {oc14 kV14 dc14 pm14 cd14 ct14 : Value}
    {f15 : Addr} {od15 an15 : Option Addr} {sl15 : Array (Option Value)} {oc15 kV15 dc15 pm15 cd15 ct15 : Value}
    {f16 : Addr} {od16 an16 : Option Addr} {sl16 : Array (Option Value)} {oc16 kV16 dc16 pm16 cd16 ct16 : Value}
    {f17 : Addr} {od17 an17 : Option Addr} {sl17 : Array (Option Value)} {oc17 kV17 dc17 pm17 cd17 ct17 : Value}
    {f18 : Addr} {od18 an18 : Option Addr} {sl18 : Array (Option Value)} {oc18 kV18 dc18 pm18 cd18 ct18 : Value}
    {f19 : Addr} {od19 an19 : Option Addr} {sl19 : Array (Option Value)} {oc19 kV19 dc19 pm19 cd19 ct19 : Value}
    {f20 : Addr} {od20 an20 : Option Addr} {sl20 : Array (Option Value)} {oc20 kV20 dc20 pm20 cd20 ct20 : Value}
    {f21 : Addr} {od21 an21 : Option Addr} {sl21 : Array (Option Value)} {oc21 kV21 dc21 pm21 cd21 ct21 : Value}
    {f22 : Addr} {od22 an22 : Option Addr} {sl22 : Array (Option Value)} {oc22 kV22 dc22 pm22 cd22 ct22 : Value}
    {f23 : Addr} {od23 an23 : Option Addr} {sl23 : Array (Option Value)} {oc23 kV23 dc23 pm23 cd23 ct23 : Value}
    {f24 : Addr} {od24 an24 : Option Addr} {sl24 : Array (Option Value)} {oc24 kV24 dc24 pm24 cd24 ct24 : Value}
    {f25 : Addr} {od25 an25 : Option Addr} {sl25 : Array (Option Value)} {oc25 kV25 dc25 pm25 cd25 ct25 : Value}
    {f26 : Addr} {od26 an26 : Option Addr} {sl26 : Array (Option Value)} {oc26 kV26 dc26 pm26 cd26 ct26 : Value}
    {f27 : Addr} {od27 an27 : Option Addr} {sl27 : Array (Option Value)} {oc27 kV27 dc27 pm27 cd27 ct27 : Value}
    {f28 : Addr} {od28 an28 : Option Addr} {sl28 : Array (Option Value)} {oc28 kV28 dc28 pm28 cd28 ct28 : Value}
    {f29 : Addr} {od29 an29 : Option Addr} {sl29 : Array (Option Value)} {oc29 kV29 dc29 pm29 cd29 ct29 : Value}
    {f30 : Addr} {od30 an30 : Option Addr} {sl30 : Array (Option Value)} {oc30 kV30 dc30 pm30 cd30 ct30 : Value}
    {f31 : Addr} {od31 an31 : Option Addr} {sl31 : Array (Option Value)} {oc31 kV31 dc31 pm31 cd31 ct31 : Value}
    {f32 : Addr} {od32 an32 : Option Addr} {sl32 : Array (Option Value)} {oc32 kV32 dc32 pm32 cd32 ct32 : Value}
    {f33 : Addr} {od33 an33 : Option Addr} {sl33 : Array (Option Value)} {oc33 kV33 dc33 pm33 cd33 ct33 : Value}
    {f34 : Addr} {od34 an34 : Option Addr} {sl34 : Array (Option Value)} {oc34 kV34 dc34 pm34 cd34 ct34 : Value}
    {f35 : Addr} {od35 an35 : Option Addr} {sl35 : Array (Option Value)} {oc35 kV35 dc35 pm35 cd35 ct35 : Value}
    {f36 : Addr} {od36 an36 : Option Addr} {sl36 : Array (Option Value)} {oc36 kV36 dc36 pm36 cd36 ct36 : Value}
    {f37 : Addr} {od37 an37 : Option Addr} {sl37 : Array (Option Value)} {oc37 kV37 dc37 pm37 cd37 ct37 : Value}
    {f38 : Addr} {od38 an38 : Option Addr} {sl38 : Array (Option Value)} {oc38 kV38 dc38 pm38 cd38 ct38 : Value}
    {f39 : Addr} {od39 an39 : Option Addr} {sl39 : Array (Option Value)} {oc39 kV39 dc39 pm39 cd39 ct39 : Value}
    {f40 : Addr} {od40 an40 : Option Addr} {sl40 : Array (Option Value)} {oc40 kV40 dc40 pm40 cd40 ct40 : Value}
    {f41 : Addr} {od41 an41 : Option Addr} {sl41 : Array (Option Value)} {oc41 kV41 dc41 pm41 cd41 ct41 : Value}
    {f42 : Addr} {od42 an42 : Option Addr} {sl42 : Array (Option Value)} {oc42 kV42 dc42 pm42 cd42 ct42 : Value}
    {f43 : Addr} {od43 an43 : Option Addr} {sl43 : Array (Option Value)} {oc43 kV43 dc43 pm43 cd43 ct43 : Value}
    {f44 : Addr} {od44 an44 : Option Addr} {sl44 : Array (Option Value)} {oc44 kV44 dc44 pm44 cd44 ct44 : Value}
    {f45 : Addr} {od45 an45 : Option Addr} {sl45 : Array (Option Value)} {oc45 kV45 dc45 pm45 cd45 ct45 : Value}
    {f46 : Addr} {od46 an46 : Option Addr} {sl46 : Array (Option Value)} {oc46 kV46 dc46 pm46 cd46 ct46 : Value}
    {f47 : Addr} {od47 an47 : Option Addr} {sl47 : Array (Option Value)} {oc47 kV47 dc47 pm47 cd47 ct47 : Value}
    {f48 : Addr} {od48 an48 : Option Addr} {sl48 : Array (Option Value)} {oc48 kV48 dc48 pm48 cd48 ct48 : Value}
    {f49 : Addr} {od49 an49 : Option Addr} {sl49 : Array (Option Value)} {oc49 kV49 dc49 pm49 cd49 ct49 : Value}
    {f50 : Addr} {od50 an50 : Option Addr} {sl50 : Array (Option Value)} {oc50 kV50 dc50 pm50 cd50 ct50 : Value}
    {f51 : Addr} {od51 an51 : Option Addr} {sl51 : Array (Option Value)} {oc51 kV51 dc51 pm51 cd51 ct51 : Value}
    {f52 : Addr} {od52 an52 : Option Addr} {sl52 : Array (Option Value)} {oc52 kV52 dc52 pm52 cd52 ct52 : Value}
    {t_HIGHEST : Tok}
    {t_LONGEST : Tok}
    {t_MOST : Tok}
    {t_DEEP : Tok}
    {t_NAME : Tok}
    {t_SMALL : Tok}
    {t_SIGNS : Tok}
    {r_KINDS : Addr} {n_KINDS : Nat} {sl_KINDS : Array (Option Value)} {t_KINDS_0 t_KINDS_1 t_KINDS_2 t_KINDS_3 t_KINDS_4 t_KINDS_5 : Tok}
    {t_NAMES : Tok}
    {t_RULES : Tok}
    {t_ROWS : Tok}
    (a0 : PySem.W.nsIn K mainGlobals "is_whole" = some (some (.ref f0))) (l0 : K.lookup f0 = some ⟨oc0, od0, .func (PySem.W.fnOf "is_whole" "is_whole" (defArgs (topS 12)) (defBody (topS 12)) (defScope (topS 12)) .none kV0 dc0 pm0 an0 cd0 ct0), sl0⟩) (c0 : PySem.W.codeIn K cd0 "is_whole" = true) (k0 : PySem.W.keepIn K (.ref f0) = true)
    (a1 : PySem.W.nsIn K mainGlobals "is_tuple_of" = some (some (.ref f1))) (l1 : K.lookup f1 = some ⟨oc1, od1, .func (PySem.W.fnOf "is_tuple_of" "is_tuple_of" (defArgs (topS 13)) (defBody (topS 13)) (defScope (topS 13)) .none kV1 dc1 pm1 an1 cd1 ct1), sl1⟩) (c1 : PySem.W.codeIn K cd1 "is_tuple_of" = true) (k1 : PySem.W.keepIn K (.ref f1) = true)
    (a2 : PySem.W.nsIn K mainGlobals "is_name" = some (some (.ref f2))) (l2 : K.lookup f2 = some ⟨oc2, od2, .func (PySem.W.fnOf "is_name" "is_name" (defArgs (topS 14)) (defBody (topS 14)) (defScope (topS 14)) .none kV2 dc2 pm2 an2 cd2 ct2), sl2⟩) (c2 : PySem.W.codeIn K cd2 "is_name" = true) (k2 : PySem.W.keepIn K (.ref f2) = true)
    (a3 : PySem.W.nsIn K mainGlobals "is_text_sign" = some (some (.ref f3))) (l3 : K.lookup f3 = some ⟨oc3, od3, .func (PySem.W.fnOf "is_text_sign" "is_text_sign" (defArgs (topS 15)) (defBody (topS 15)) (defScope (topS 15)) .none kV3 dc3 pm3 an3 cd3 ct3), sl3⟩) (c3 : PySem.W.codeIn K cd3 "is_text_sign" = true) (k3 : PySem.W.keepIn K (.ref f3) = true)
    (a4 : PySem.W.nsIn K mainGlobals "fits_plain" = some (some (.ref f4))) (l4 : K.lookup f4 = some ⟨oc4, od4, .func (PySem.W.fnOf "fits_plain" "fits_plain" (defArgs (topS 16)) (defBody (topS 16)) (defScope (topS 16)) .none kV4 dc4 pm4 an4 cd4 ct4), sl4⟩) (c4 : PySem.W.codeIn K cd4 "fits_plain" = true) (k4 : PySem.W.keepIn K (.ref f4) = true)
    (a5 : PySem.W.nsIn K mainGlobals "is_knot" = some (some (.ref f5))) (l5 : K.lookup f5 = some ⟨oc5, od5, .func (PySem.W.fnOf "is_knot" "is_knot" (defArgs (topS 17)) (defBody (topS 17)) (defScope (topS 17)) .none kV5 dc5 pm5 an5 cd5 ct5), sl5⟩) (c5 : PySem.W.codeIn K cd5 "is_knot" = true) (k5 : PySem.W.keepIn K (.ref f5) = true)
    (a6 : PySem.W.nsIn K mainGlobals "fits_fields" = some (some (.ref f6))) (l6 : K.lookup f6 = some ⟨oc6, od6, .func (PySem.W.fnOf "fits_fields" "fits_fields" (defArgs (topS 18)) (defBody (topS 18)) (defScope (topS 18)) .none kV6 dc6 pm6 an6 cd6 ct6), sl6⟩) (c6 : PySem.W.codeIn K cd6 "fits_fields" = true) (k6 : PySem.W.keepIn K (.ref f6) = true)
    (a7 : PySem.W.nsIn K mainGlobals "inner_of" = some (some (.ref f7))) (l7 : K.lookup f7 = some ⟨oc7, od7, .func (PySem.W.fnOf "inner_of" "inner_of" (defArgs (topS 19)) (defBody (topS 19)) (defScope (topS 19)) .none kV7 dc7 pm7 an7 cd7 ct7), sl7⟩) (c7 : PySem.W.codeIn K cd7 "inner_of" = true) (k7 : PySem.W.keepIn K (.ref f7) = true)
    (a8 : PySem.W.nsIn K mainGlobals "fits_value" = some (some (.ref f8))) (l8 : K.lookup f8 = some ⟨oc8, od8, .func (PySem.W.fnOf "fits_value" "fits_value" (defArgs (topS 20)) (defBody (topS 20)) (defScope (topS 20)) .none kV8 dc8 pm8 an8 cd8 ct8), sl8⟩) (c8 : PySem.W.codeIn K cd8 "fits_value" = true) (k8 : PySem.W.keepIn K (.ref f8) = true)
    (a9 : PySem.W.nsIn K mainGlobals "is_doc" = some (some (.ref f9))) (l9 : K.lookup f9 = some ⟨oc9, od9, .func (PySem.W.fnOf "is_doc" "is_doc" (defArgs (topS 21)) (defBody (topS 21)) (defScope (topS 21)) .none kV9 dc9 pm9 an9 cd9 ct9), sl9⟩) (c9 : PySem.W.codeIn K cd9 "is_doc" = true) (k9 : PySem.W.keepIn K (.ref f9) = true)
    (a10 : PySem.W.nsIn K mainGlobals "kind_in" = some (some (.ref f10))) (l10 : K.lookup f10 = some ⟨oc10, od10, .func (PySem.W.fnOf "kind_in" "kind_in" (defArgs (topS 22)) (defBody (topS 22)) (defScope (topS 22)) .none kV10 dc10 pm10 an10 cd10 ct10), sl10⟩) (c10 : PySem.W.codeIn K cd10 "kind_in" = true) (k10 : PySem.W.keepIn K (.ref f10) = true)
    (a11 : PySem.W.nsIn K mainGlobals "sign_of" = some (some (.ref f11))) (l11 : K.lookup f11 = some ⟨oc11, od11, .func (PySem.W.fnOf "sign_of" "sign_of" (defArgs (topS 24)) (defBody (topS 24)) (defScope (topS 24)) .none kV11 dc11 pm11 an11 cd11 ct11), sl11⟩) (c11 : PySem.W.codeIn K cd11 "sign_of" = true) (k11 : PySem.W.keepIn K (.ref f11) = true)
    (a12 : PySem.W.nsIn K mainGlobals "compared" = some (some (.ref f12))) (l12 : K.lookup f12 = some ⟨oc12, od12, .func (PySem.W.fnOf "compared" "compared" (defArgs (topS 25)) (defBody (topS 25)) (defScope (topS 25)) .none kV12 dc12 pm12 an12 cd12 ct12), sl12⟩) (c12 : PySem.W.codeIn K cd12 "compared" = true) (k12 : PySem.W.keepIn K (.ref f12) = true)
    (a13 : PySem.W.nsIn K mainGlobals "are_alike" = some (some (.ref f13))) (l13 : K.lookup f13 = some ⟨oc13, od13, .func (PySem.W.fnOf "are_alike" "are_alike" (defArgs (topS 26)) (defBody (topS 26)) (defScope (topS 26)) .none kV13 dc13 pm13 an13 cd13 ct13), sl13⟩) (c13 : PySem.W.codeIn K cd13 "are_alike" = true) (k13 : PySem.W.keepIn K (.ref f13) = true)
    (a14 : PySem.W.nsIn K mainGlobals "fits_names" = some (some (.ref f14))) (l14 : K.lookup f14 = some ⟨oc14, od14, .func (PySem.W.fnOf "fits_names" "fits_names" (defArgs (topS 31)) (defBody (topS 31)) (defScope (topS 31)) .none kV14 dc14 pm14 an14 cd14 ct14), sl14⟩) (c14 : PySem.W.codeIn K cd14 "fits_names" = true) (k14 : PySem.W.keepIn K (.ref f14) = true)
    (a15 : PySem.W.nsIn K mainGlobals "fits_some" = some (some (.ref f15))) (l15 : K.lookup f15 = some ⟨oc15, od15, .func (PySem.W.fnOf "fits_some" "fits_some" (defArgs (topS 32)) (defBody (topS 32)) (defScope (topS 32)) .none kV15 dc15 pm15 an15 cd15 ct15), sl15⟩) (c15 : PySem.W.codeIn K cd15 "fits_some" = true) (k15 : PySem.W.keepIn K (.ref f15) = true)
    (a16 : PySem.W.nsIn K mainGlobals "fits_rule" = some (some (.ref f16))) (l16 : K.lookup f16 = some ⟨oc16, od16, .func (PySem.W.fnOf "fits_rule" "fits_rule" (defArgs (topS 33)) (defBody (topS 33)) (defScope (topS 33)) .none kV16 dc16 pm16 an16 cd16 ct16), sl16⟩) (c16 : PySem.W.codeIn K cd16 "fits_rule" = true) (k16 : PySem.W.keepIn K (.ref f16) = true)
    (a17 : PySem.W.nsIn K mainGlobals "fits_rules" = some (some (.ref f17))) (l17 : K.lookup f17 = some ⟨oc17, od17, .func (PySem.W.fnOf "fits_rules" "fits_rules" (defArgs (topS 34)) (defBody (topS 34)) (defScope (topS 34)) .none kV17 dc17 pm17 an17 cd17 ct17), sl17⟩) (c17 : PySem.W.codeIn K cd17 "fits_rules" = true) (k17 : PySem.W.keepIn K (.ref f17) = true)
    (a18 : PySem.W.nsIn K mainGlobals "fits_table" = some (some (.ref f18))) (l18 : K.lookup f18 = some ⟨oc18, od18, .func (PySem.W.fnOf "fits_table" "fits_table" (defArgs (topS 35)) (defBody (topS 35)) (defScope (topS 35)) .none kV18 dc18 pm18 an18 cd18 ct18), sl18⟩) (c18 : PySem.W.codeIn K cd18 "fits_table" = true) (k18 : PySem.W.keepIn K (.ref f18) = true)
    (a19 : PySem.W.nsIn K mainGlobals "need_names" = some (some (.ref f19))) (l19 : K.lookup f19 = some ⟨oc19, od19, .func (PySem.W.fnOf "need_names" "need_names" (defArgs (topS 36)) (defBody (topS 36)) (defScope (topS 36)) .none kV19 dc19 pm19 an19 cd19 ct19), sl19⟩) (c19 : PySem.W.codeIn K cd19 "need_names" = true) (k19 : PySem.W.keepIn K (.ref f19) = true)
    (a20 : PySem.W.nsIn K mainGlobals "need_rules" = some (some (.ref f20))) (l20 : K.lookup f20 = some ⟨oc20, od20, .func (PySem.W.fnOf "need_rules" "need_rules" (defArgs (topS 37)) (defBody (topS 37)) (defScope (topS 37)) .none kV20 dc20 pm20 an20 cd20 ct20), sl20⟩) (c20 : PySem.W.codeIn K cd20 "need_rules" = true) (k20 : PySem.W.keepIn K (.ref f20) = true)
    (a21 : PySem.W.nsIn K mainGlobals "need_rule" = some (some (.ref f21))) (l21 : K.lookup f21 = some ⟨oc21, od21, .func (PySem.W.fnOf "need_rule" "need_rule" (defArgs (topS 38)) (defBody (topS 38)) (defScope (topS 38)) .none kV21 dc21 pm21 an21 cd21 ct21), sl21⟩) (c21 : PySem.W.codeIn K cd21 "need_rule" = true) (k21 : PySem.W.keepIn K (.ref f21) = true)
    (a22 : PySem.W.nsIn K mainGlobals "need_table" = some (some (.ref f22))) (l22 : K.lookup f22 = some ⟨oc22, od22, .func (PySem.W.fnOf "need_table" "need_table" (defArgs (topS 39)) (defBody (topS 39)) (defScope (topS 39)) .none kV22 dc22 pm22 an22 cd22 ct22), sl22⟩) (c22 : PySem.W.codeIn K cd22 "need_table" = true) (k22 : PySem.W.keepIn K (.ref f22) = true)
    (a23 : PySem.W.nsIn K mainGlobals "settled_by" = some (some (.ref f23))) (l23 : K.lookup f23 = some ⟨oc23, od23, .func (PySem.W.fnOf "settled_by" "settled_by" (defArgs (topS 40)) (defBody (topS 40)) (defScope (topS 40)) .none kV23 dc23 pm23 an23 cd23 ct23), sl23⟩) (c23 : PySem.W.codeIn K cd23 "settled_by" = true) (k23 : PySem.W.keepIn K (.ref f23) = true)
    (a24 : PySem.W.nsIn K mainGlobals "is_settled" = some (some (.ref f24))) (l24 : K.lookup f24 = some ⟨oc24, od24, .func (PySem.W.fnOf "is_settled" "is_settled" (defArgs (topS 41)) (defBody (topS 41)) (defScope (topS 41)) .none kV24 dc24 pm24 an24 cd24 ct24), sl24⟩) (c24 : PySem.W.codeIn K cd24 "is_settled" = true) (k24 : PySem.W.keepIn K (.ref f24) = true)
    (a25 : PySem.W.nsIn K mainGlobals "value_at" = some (some (.ref f25))) (l25 : K.lookup f25 = some ⟨oc25, od25, .func (PySem.W.fnOf "value_at" "value_at" (defArgs (topS 42)) (defBody (topS 42)) (defScope (topS 42)) .none kV25 dc25 pm25 an25 cd25 ct25), sl25⟩) (c25 : PySem.W.codeIn K cd25 "value_at" = true) (k25 : PySem.W.keepIn K (.ref f25) = true)
    (a26 : PySem.W.nsIn K mainGlobals "are_alike_at" = some (some (.ref f26))) (l26 : K.lookup f26 = some ⟨oc26, od26, .func (PySem.W.fnOf "are_alike_at" "are_alike_at" (defArgs (topS 43)) (defBody (topS 43)) (defScope (topS 43)) .none kV26 dc26 pm26 an26 cd26 ct26), sl26⟩) (c26 : PySem.W.codeIn K cd26 "are_alike_at" = true) (k26 : PySem.W.keepIn K (.ref f26) = true)
    (a27 : PySem.W.nsIn K mainGlobals "breach_of" = some (some (.ref f27))) (l27 : K.lookup f27 = some ⟨oc27, od27, .func (PySem.W.fnOf "breach_of" "breach_of" (defArgs (topS 44)) (defBody (topS 44)) (defScope (topS 44)) .none kV27 dc27 pm27 an27 cd27 ct27), sl27⟩) (c27 : PySem.W.codeIn K cd27 "breach_of" = true) (k27 : PySem.W.keepIn K (.ref f27) = true)
    (a28 : PySem.W.nsIn K mainGlobals "row_of" = some (some (.ref f28))) (l28 : K.lookup f28 = some ⟨oc28, od28, .func (PySem.W.fnOf "row_of" "row_of" (defArgs (topS 45)) (defBody (topS 45)) (defScope (topS 45)) .none kV28 dc28 pm28 an28 cd28 ct28), sl28⟩) (c28 : PySem.W.codeIn K cd28 "row_of" = true) (k28 : PySem.W.keepIn K (.ref f28) = true)
    (a29 : PySem.W.nsIn K mainGlobals "are_names" = some (some (.ref f29))) (l29 : K.lookup f29 = some ⟨oc29, od29, .func (PySem.W.fnOf "are_names" "are_names" (defArgs (topS 46)) (defBody (topS 46)) (defScope (topS 46)) .none kV29 dc29 pm29 an29 cd29 ct29), sl29⟩) (c29 : PySem.W.codeIn K cd29 "are_names" = true) (k29 : PySem.W.keepIn K (.ref f29) = true)
    (a30 : PySem.W.nsIn K mainGlobals "are_rules" = some (some (.ref f30))) (l30 : K.lookup f30 = some ⟨oc30, od30, .func (PySem.W.fnOf "are_rules" "are_rules" (defArgs (topS 47)) (defBody (topS 47)) (defScope (topS 47)) .none kV30 dc30 pm30 an30 cd30 ct30), sl30⟩) (c30 : PySem.W.codeIn K cd30 "are_rules" = true) (k30 : PySem.W.keepIn K (.ref f30) = true)
    (a31 : PySem.W.nsIn K mainGlobals "settled" = some (some (.ref f31))) (l31 : K.lookup f31 = some ⟨oc31, od31, .func (PySem.W.fnOf "settled" "settled" (defArgs (topS 48)) (defBody (topS 48)) (defScope (topS 48)) .none kV31 dc31 pm31 an31 cd31 ct31), sl31⟩) (c31 : PySem.W.codeIn K cd31 "settled" = true) (k31 : PySem.W.keepIn K (.ref f31) = true)
    (a32 : PySem.W.nsIn K mainGlobals "follows" = some (some (.ref f32))) (l32 : K.lookup f32 = some ⟨oc32, od32, .func (PySem.W.fnOf "follows" "follows" (defArgs (topS 49)) (defBody (topS 49)) (defScope (topS 49)) .none kV32 dc32 pm32 an32 cd32 ct32), sl32⟩) (c32 : PySem.W.codeIn K cd32 "follows" = true) (k32 : PySem.W.keepIn K (.ref f32) = true)
    (a33 : PySem.W.nsIn K mainGlobals "proof" = some (some (.ref f33))) (l33 : K.lookup f33 = some ⟨oc33, od33, .func (PySem.W.fnOf "proof" "proof" (defArgs (topS 50)) (defBody (topS 50)) (defScope (topS 50)) .none kV33 dc33 pm33 an33 cd33 ct33), sl33⟩) (c33 : PySem.W.codeIn K cd33 "proof" = true) (k33 : PySem.W.keepIn K (.ref f33) = true)
    (a34 : PySem.W.nsIn K mainGlobals "is_proof" = some (some (.ref f34))) (l34 : K.lookup f34 = some ⟨oc34, od34, .func (PySem.W.fnOf "is_proof" "is_proof" (defArgs (topS 51)) (defBody (topS 51)) (defScope (topS 51)) .none kV34 dc34 pm34 an34 cd34 ct34), sl34⟩) (c34 : PySem.W.codeIn K cd34 "is_proof" = true) (k34 : PySem.W.keepIn K (.ref f34) = true)
    (a35 : PySem.W.nsIn K mainGlobals "against" = some (some (.ref f35))) (l35 : K.lookup f35 = some ⟨oc35, od35, .func (PySem.W.fnOf "against" "against" (defArgs (topS 52)) (defBody (topS 52)) (defScope (topS 52)) .none kV35 dc35 pm35 an35 cd35 ct35), sl35⟩) (c35 : PySem.W.codeIn K cd35 "against" = true) (k35 : PySem.W.keepIn K (.ref f35) = true)
    (a36 : PySem.W.nsIn K mainGlobals "breach" = some (some (.ref f36))) (l36 : K.lookup f36 = some ⟨oc36, od36, .func (PySem.W.fnOf "breach" "breach" (defArgs (topS 53)) (defBody (topS 53)) (defScope (topS 53)) .none kV36 dc36 pm36 an36 cd36 ct36), sl36⟩) (c36 : PySem.W.codeIn K cd36 "breach" = true) (k36 : PySem.W.keepIn K (.ref f36) = true)
    (a37 : PySem.W.nsIn K mainGlobals "_law_cup" = some (some (.ref f37))) (l37 : K.lookup f37 = some ⟨oc37, od37, .func (PySem.W.fnOf "_law_cup" "_law_cup" (defArgs (topS 55)) (defBody (topS 55)) (defScope (topS 55)) .none kV37 dc37 pm37 an37 cd37 ct37), sl37⟩) (c37 : PySem.W.codeIn K cd37 "_law_cup" = true) (k37 : PySem.W.keepIn K (.ref f37) = true)
    (a38 : PySem.W.nsIn K mainGlobals "_law_roll" = some (some (.ref f38))) (l38 : K.lookup f38 = some ⟨oc38, od38, .func (PySem.W.fnOf "_law_roll" "_law_roll" (defArgs (topS 56)) (defBody (topS 56)) (defScope (topS 56)) .none kV38 dc38 pm38 an38 cd38 ct38), sl38⟩) (c38 : PySem.W.codeIn K cd38 "_law_roll" = true) (k38 : PySem.W.keepIn K (.ref f38) = true)
    (a39 : PySem.W.nsIn K mainGlobals "_law_some" = some (some (.ref f39))) (l39 : K.lookup f39 = some ⟨oc39, od39, .func (PySem.W.fnOf "_law_some" "_law_some" (defArgs (topS 57)) (defBody (topS 57)) (defScope (topS 57)) .none kV39 dc39 pm39 an39 cd39 ct39), sl39⟩) (c39 : PySem.W.codeIn K cd39 "_law_some" = true) (k39 : PySem.W.keepIn K (.ref f39) = true)
    (a40 : PySem.W.nsIn K mainGlobals "_law_same" = some (some (.ref f40))) (l40 : K.lookup f40 = some ⟨oc40, od40, .func (PySem.W.fnOf "_law_same" "_law_same" (defArgs (topS 58)) (defBody (topS 58)) (defScope (topS 58)) .none kV40 dc40 pm40 an40 cd40 ct40), sl40⟩) (c40 : PySem.W.codeIn K cd40 "_law_same" = true) (k40 : PySem.W.keepIn K (.ref f40) = true)
    (a41 : PySem.W.nsIn K mainGlobals "_law_names" = some (some (.ref f41))) (l41 : K.lookup f41 = some ⟨oc41, od41, .func (PySem.W.fnOf "_law_names" "_law_names" (defArgs (topS 60)) (defBody (topS 60)) (defScope (topS 60)) .none kV41 dc41 pm41 an41 cd41 ct41), sl41⟩) (c41 : PySem.W.codeIn K cd41 "_law_names" = true) (k41 : PySem.W.keepIn K (.ref f41) = true)
    (a42 : PySem.W.nsIn K mainGlobals "_law_part" = some (some (.ref f42))) (l42 : K.lookup f42 = some ⟨oc42, od42, .func (PySem.W.fnOf "_law_part" "_law_part" (defArgs (topS 61)) (defBody (topS 61)) (defScope (topS 61)) .none kV42 dc42 pm42 an42 cd42 ct42), sl42⟩) (c42 : PySem.W.codeIn K cd42 "_law_part" = true) (k42 : PySem.W.keepIn K (.ref f42) = true)
    (a43 : PySem.W.nsIn K mainGlobals "_law_rules" = some (some (.ref f43))) (l43 : K.lookup f43 = some ⟨oc43, od43, .func (PySem.W.fnOf "_law_rules" "_law_rules" (defArgs (topS 62)) (defBody (topS 62)) (defScope (topS 62)) .none kV43 dc43 pm43 an43 cd43 ct43), sl43⟩) (c43 : PySem.W.codeIn K cd43 "_law_rules" = true) (k43 : PySem.W.keepIn K (.ref f43) = true)
    (a44 : PySem.W.nsIn K mainGlobals "_law_settled" = some (some (.ref f44))) (l44 : K.lookup f44 = some ⟨oc44, od44, .func (PySem.W.fnOf "_law_settled" "_law_settled" (defArgs (topS 63)) (defBody (topS 63)) (defScope (topS 63)) .none kV44 dc44 pm44 an44 cd44 ct44), sl44⟩) (c44 : PySem.W.codeIn K cd44 "_law_settled" = true) (k44 : PySem.W.keepIn K (.ref f44) = true)
    (a45 : PySem.W.nsIn K mainGlobals "_law_doc_of" = some (some (.ref f45))) (l45 : K.lookup f45 = some ⟨oc45, od45, .func (PySem.W.fnOf "_law_doc_of" "_law_doc_of" (defArgs (topS 64)) (defBody (topS 64)) (defScope (topS 64)) .none kV45 dc45 pm45 an45 cd45 ct45), sl45⟩) (c45 : PySem.W.codeIn K cd45 "_law_doc_of" = true) (k45 : PySem.W.keepIn K (.ref f45) = true)
    (a46 : PySem.W.nsIn K mainGlobals "_law_values" = some (some (.ref f46))) (l46 : K.lookup f46 = some ⟨oc46, od46, .func (PySem.W.fnOf "_law_values" "_law_values" (defArgs (topS 65)) (defBody (topS 65)) (defScope (topS 65)) .none kV46 dc46 pm46 an46 cd46 ct46), sl46⟩) (c46 : PySem.W.codeIn K cd46 "_law_values" = true) (k46 : PySem.W.keepIn K (.ref f46) = true)
    (a47 : PySem.W.nsIn K mainGlobals "_law_breach" = some (some (.ref f47))) (l47 : K.lookup f47 = some ⟨oc47, od47, .func (PySem.W.fnOf "_law_breach" "_law_breach" (defArgs (topS 66)) (defBody (topS 66)) (defScope (topS 66)) .none kV47 dc47 pm47 an47 cd47 ct47), sl47⟩) (c47 : PySem.W.codeIn K cd47 "_law_breach" = true) (k47 : PySem.W.keepIn K (.ref f47) = true)
    (a48 : PySem.W.nsIn K mainGlobals "_law_keeps" = some (some (.ref f48))) (l48 : K.lookup f48 = some ⟨oc48, od48, .func (PySem.W.fnOf "_law_keeps" "_law_keeps" (defArgs (topS 67)) (defBody (topS 67)) (defScope (topS 67)) .none kV48 dc48 pm48 an48 cd48 ct48), sl48⟩) (c48 : PySem.W.codeIn K cd48 "_law_keeps" = true) (k48 : PySem.W.keepIn K (.ref f48) = true)
    (a49 : PySem.W.nsIn K mainGlobals "_law_proof" = some (some (.ref f49))) (l49 : K.lookup f49 = some ⟨oc49, od49, .func (PySem.W.fnOf "_law_proof" "_law_proof" (defArgs (topS 68)) (defBody (topS 68)) (defScope (topS 68)) .none kV49 dc49 pm49 an49 cd49 ct49), sl49⟩) (c49 : PySem.W.codeIn K cd49 "_law_proof" = true) (k49 : PySem.W.keepIn K (.ref f49) = true)
    (a50 : PySem.W.nsIn K mainGlobals "_law_is_proof" = some (some (.ref f50))) (l50 : K.lookup f50 = some ⟨oc50, od50, .func (PySem.W.fnOf "_law_is_proof" "_law_is_proof" (defArgs (topS 69)) (defBody (topS 69)) (defScope (topS 69)) .none kV50 dc50 pm50 an50 cd50 ct50), sl50⟩) (c50 : PySem.W.codeIn K cd50 "_law_is_proof" = true) (k50 : PySem.W.keepIn K (.ref f50) = true)
    (a51 : PySem.W.nsIn K mainGlobals "_law_odds_right" = some (some (.ref f51))) (l51 : K.lookup f51 = some ⟨oc51, od51, .func (PySem.W.fnOf "_law_odds_right" "_law_odds_right" (defArgs (topS 70)) (defBody (topS 70)) (defScope (topS 70)) .none kV51 dc51 pm51 an51 cd51 ct51), sl51⟩) (c51 : PySem.W.codeIn K cd51 "_law_odds_right" = true) (k51 : PySem.W.keepIn K (.ref f51) = true)
    (a52 : PySem.W.nsIn K mainGlobals "law" = some (some (.ref f52))) (l52 : K.lookup f52 = some ⟨oc52, od52, .func (PySem.W.fnOf "law" "law" (defArgs (topS 71)) (defBody (topS 71)) (defScope (topS 71)) .none kV52 dc52 pm52 an52 cd52 ct52), sl52⟩) (c52 : PySem.W.codeIn K cd52 "law" = true) (k52 : PySem.W.keepIn K (.ref f52) = true)
    (z_len : PySem.W.nsIn K mainGlobals "len" = some none)
    (z_range : PySem.W.nsIn K mainGlobals "range" = some none)
    (z_int : PySem.W.nsIn K mainGlobals "int" = some none)
    (z_str : PySem.W.nsIn K mainGlobals "str" = some none)
    (z_abs : PySem.W.nsIn K mainGlobals "abs" = some none)
    (z_all : PySem.W.nsIn K mainGlobals "all" = some none)
    (z_any : PySem.W.nsIn K mainGlobals "any" = some none)
    (z_tuple : PySem.W.nsIn K mainGlobals "tuple" = some none)
    (z_list : PySem.W.nsIn K mainGlobals "list" = some none)
    (z_sorted : PySem.W.nsIn K mainGlobals "sorted" = some none)
    (z_isinstance : PySem.W.nsIn K mainGlobals "isinstance" = some none)
    (z_zip : PySem.W.nsIn K mainGlobals "zip" = some none)
    (z_enumerate : PySem.W.nsIn K mainGlobals "enumerate" = some none)
    (z_ord : PySem.W.nsIn K mainGlobals "ord" = some none)
    (z_set : PySem.W.nsIn K mainGlobals "set" = some none)
    (z_dict : PySem.W.nsIn K mainGlobals "dict" = some none)
    (z_bool : PySem.W.nsIn K mainGlobals "bool" = some none)
    (z_max : PySem.W.nsIn K mainGlobals "max" = some none)
    (z_min : PySem.W.nsIn K mainGlobals "min" = some none)
    (z_sum : PySem.W.nsIn K mainGlobals "sum" = some none)
    (z_chr : PySem.W.nsIn K mainGlobals "chr" = some none)
    (z_reversed : PySem.W.nsIn K mainGlobals "reversed" = some none)
    (g_HIGHEST : PySem.W.nsIn K mainGlobals "HIGHEST" = some (some (.int (1000000000000) t_HIGHEST)))
    (g_LONGEST : PySem.W.nsIn K mainGlobals "LONGEST" = some (some (.int (40) t_LONGEST)))
    (g_MOST : PySem.W.nsIn K mainGlobals "MOST" = some (some (.int (16) t_MOST)))
    (g_DEEP : PySem.W.nsIn K mainGlobals "DEEP" = some (some (.int (6) t_DEEP)))
    (g_NAME : PySem.W.nsIn K mainGlobals "NAME" = some (some (.int (8) t_NAME)))
    (g_SMALL : PySem.W.nsIn K mainGlobals "SMALL" = some (some (.str "abcdefghijklmnopqrstuvwxyz" t_SMALL)))
    (g_SIGNS : PySem.W.nsIn K mainGlobals "SIGNS" = some (some (.str "abcdefghijklmnopqrstuvwxyz0123456789" t_SIGNS)))
    (g_KINDS : PySem.W.nsIn K mainGlobals "KINDS" = some (some (.ref r_KINDS))) (h_KINDS : K.lookup r_KINDS = some ⟨.type "tuple", none, .seq #[.str "null" t_KINDS_0, .str "number" t_KINDS_1, .str "text" t_KINDS_2, .str "doc" t_KINDS_3, .str "list" t_KINDS_4, .str "truth" t_KINDS_5] n_KINDS, sl_KINDS⟩)
    (g_NAMES : PySem.W.nsIn K mainGlobals "NAMES" = some (some (.int (8) t_NAMES)))
    (g_RULES : PySem.W.nsIn K mainGlobals "RULES" = some (some (.int (12) t_RULES)))
    (g_ROWS : PySem.W.nsIn K mainGlobals "ROWS" = some (some (.int (10) t_ROWS))) : Facts K mg where
  f_is_whole := ⟨⟨f0, _, fun_mk (st := topS 12) l0 c0 k0, PySem.W.mg_of X G a0, (fun_mk (st := topS 12) l0 c0 k0).binds (ps := ["value", "low", "high"]) fun _ _ _ _ _ _ us hl => match us, hl with | [_, _, _], _ => rfl⟩, sc_is_whole⟩
  f_is_tuple_of := ⟨⟨f1, _, fun_mk (st := topS 13) l1 c1 k1, PySem.W.mg_of X G a1, (fun_mk (st := topS 13) l1 c1 k1).binds (ps := ["value", "low", "high"]) fun _ _ _ _ _ _ us hl => match us, hl with | [_, _, _], _ => rfl⟩, sc_is_tuple_of⟩
  f_is_name := ⟨⟨f2, _, fun_mk (st := topS 14) l2 c2 k2, PySem.W.mg_of X G a2, (fun_mk (st := topS 14) l2 c2 k2).binds (ps := ["value"]) fun _ _ _ _ _ _ us hl => match us, hl with | [_], _ => rfl⟩, sc_is_name⟩
  f_is_text_sign := ⟨⟨f3, _, fun_mk (st := topS 15) l3 c3 k3, PySem.W.mg_of X G a3, (fun_mk (st := topS 15) l3 c3 k3).binds (ps := ["sign"]) fun _ _ _ _ _ _ us hl => match us, hl with | [_], _ => rfl⟩, sc_is_text_sign⟩
  f_fits_plain := ⟨⟨f4, _, fun_mk (st := topS 16) l4 c4 k4, PySem.W.mg_of X G a4, (fun_mk (st := topS 16) l4 c4 k4).binds (ps := ["value"]) fun _ _ _ _ _ _ us hl => match us, hl with | [_], _ => rfl⟩, sc_fits_plain⟩
  f_is_knot := ⟨⟨f5, _, fun_mk (st := topS 17) l5 c5 k5, PySem.W.mg_of X G a5, (fun_mk (st := topS 17) l5 c5 k5).binds (ps := ["value"]) fun _ _ _ _ _ _ us hl => match us, hl with | [_], _ => rfl⟩, sc_is_knot⟩
  f_fits_fields := ⟨⟨f6, _, fun_mk (st := topS 18) l6 c6 k6, PySem.W.mg_of X G a6, (fun_mk (st := topS 18) l6 c6 k6).binds (ps := ["fields"]) fun _ _ _ _ _ _ us hl => match us, hl with | [_], _ => rfl⟩, sc_fits_fields⟩
  f_inner_of := ⟨⟨f7, _, fun_mk (st := topS 19) l7 c7 k7, PySem.W.mg_of X G a7, (fun_mk (st := topS 19) l7 c7 k7).binds (ps := ["value"]) fun _ _ _ _ _ _ us hl => match us, hl with | [_], _ => rfl⟩, sc_inner_of⟩
  f_fits_value := ⟨⟨f8, _, fun_mk (st := topS 20) l8 c8 k8, PySem.W.mg_of X G a8, (fun_mk (st := topS 20) l8 c8 k8).binds (ps := ["value"]) fun _ _ _ _ _ _ us hl => match us, hl with | [_], _ => rfl⟩, sc_fits_value⟩
  f_is_doc := ⟨⟨f9, _, fun_mk (st := topS 21) l9 c9 k9, PySem.W.mg_of X G a9, (fun_mk (st := topS 21) l9 c9 k9).binds (ps := ["value"]) fun _ _ _ _ _ _ us hl => match us, hl with | [_], _ => rfl⟩, sc_is_doc⟩
  f_kind_in := ⟨⟨f10, _, fun_mk (st := topS 22) l10 c10 k10, PySem.W.mg_of X G a10, (fun_mk (st := topS 22) l10 c10 k10).binds (ps := ["value"]) fun _ _ _ _ _ _ us hl => match us, hl with | [_], _ => rfl⟩, sc_kind_in⟩
  f_sign_of := ⟨⟨f11, _, fun_mk (st := topS 24) l11 c11 k11, PySem.W.mg_of X G a11, (fun_mk (st := topS 24) l11 c11 k11).binds (ps := ["one", "other"]) fun _ _ _ _ _ _ us hl => match us, hl with | [_, _], _ => rfl⟩, sc_sign_of⟩
  f_compared := ⟨⟨f12, _, fun_mk (st := topS 25) l12 c12 k12, PySem.W.mg_of X G a12, (fun_mk (st := topS 25) l12 c12 k12).binds (ps := ["one", "other"]) fun _ _ _ _ _ _ us hl => match us, hl with | [_, _], _ => rfl⟩, sc_compared⟩
  f_are_alike := ⟨⟨f13, _, fun_mk (st := topS 26) l13 c13 k13, PySem.W.mg_of X G a13, (fun_mk (st := topS 26) l13 c13 k13).binds (ps := ["one", "other"]) fun _ _ _ _ _ _ us hl => match us, hl with | [_, _], _ => rfl⟩, sc_are_alike⟩
  f_fits_names := ⟨⟨f14, _, fun_mk (st := topS 31) l14 c14 k14, PySem.W.mg_of X G a14, (fun_mk (st := topS 31) l14 c14 k14).binds (ps := ["value", "least"]) fun _ _ _ _ _ _ us hl => match us, hl with | [_, _], _ => rfl⟩, sc_fits_names⟩
  f_fits_some := ⟨⟨f15, _, fun_mk (st := topS 32) l15 c15 k15, PySem.W.mg_of X G a15, (fun_mk (st := topS 32) l15 c15 k15).binds (ps := ["names", "value", "least"]) fun _ _ _ _ _ _ us hl => match us, hl with | [_, _, _], _ => rfl⟩, sc_fits_some⟩
  f_fits_rule := ⟨⟨f16, _, fun_mk (st := topS 33) l16 c16 k16, PySem.W.mg_of X G a16, (fun_mk (st := topS 33) l16 c16 k16).binds (ps := ["names", "value"]) fun _ _ _ _ _ _ us hl => match us, hl with | [_, _], _ => rfl⟩, sc_fits_rule⟩
  f_fits_rules := ⟨⟨f17, _, fun_mk (st := topS 34) l17 c17 k17, PySem.W.mg_of X G a17, (fun_mk (st := topS 34) l17 c17 k17).binds (ps := ["names", "value"]) fun _ _ _ _ _ _ us hl => match us, hl with | [_, _], _ => rfl⟩, sc_fits_rules⟩
  f_fits_table := ⟨⟨f18, _, fun_mk (st := topS 35) l18 c18 k18, PySem.W.mg_of X G a18, (fun_mk (st := topS 35) l18 c18 k18).binds (ps := ["names", "value"]) fun _ _ _ _ _ _ us hl => match us, hl with | [_, _], _ => rfl⟩, sc_fits_table⟩
  f_need_names := ⟨⟨f19, _, fun_mk (st := topS 36) l19 c19 k19, PySem.W.mg_of X G a19, (fun_mk (st := topS 36) l19 c19 k19).binds (ps := ["names"]) fun _ _ _ _ _ _ us hl => match us, hl with | [_], _ => rfl⟩, sc_need_names⟩
  f_need_rules := ⟨⟨f20, _, fun_mk (st := topS 37) l20 c20 k20, PySem.W.mg_of X G a20, (fun_mk (st := topS 37) l20 c20 k20).binds (ps := ["names", "rules"]) fun _ _ _ _ _ _ us hl => match us, hl with | [_, _], _ => rfl⟩, sc_need_rules⟩
  f_need_rule := ⟨⟨f21, _, fun_mk (st := topS 38) l21 c21 k21, PySem.W.mg_of X G a21, (fun_mk (st := topS 38) l21 c21 k21).binds (ps := ["names", "rules", "rule"]) fun _ _ _ _ _ _ us hl => match us, hl with | [_, _, _], _ => rfl⟩, sc_need_rule⟩
  f_need_table := ⟨⟨f22, _, fun_mk (st := topS 39) l22 c22 k22, PySem.W.mg_of X G a22, (fun_mk (st := topS 39) l22 c22 k22).binds (ps := ["names", "table"]) fun _ _ _ _ _ _ us hl => match us, hl with | [_, _], _ => rfl⟩, sc_need_table⟩
  f_settled_by := ⟨⟨f23, _, fun_mk (st := topS 40) l23 c23 k23, PySem.W.mg_of X G a23, (fun_mk (st := topS 40) l23 c23 k23).binds (ps := ["rules", "some"]) fun _ _ _ _ _ _ us hl => match us, hl with | [_, _], _ => rfl⟩, sc_settled_by⟩
  f_is_settled := ⟨⟨f24, _, fun_mk (st := topS 41) l24 c24 k24, PySem.W.mg_of X G a24, (fun_mk (st := topS 41) l24 c24 k24).binds (ps := ["rules", "rule"]) fun _ _ _ _ _ _ us hl => match us, hl with | [_, _], _ => rfl⟩, sc_is_settled⟩
  f_value_at := ⟨⟨f25, _, fun_mk (st := topS 42) l25 c25 k25, PySem.W.mg_of X G a25, (fun_mk (st := topS 42) l25 c25 k25).binds (ps := ["document", "name"]) fun _ _ _ _ _ _ us hl => match us, hl with | [_, _], _ => rfl⟩, sc_value_at⟩
  f_are_alike_at := ⟨⟨f26, _, fun_mk (st := topS 43) l26 c26 k26, PySem.W.mg_of X G a26, (fun_mk (st := topS 43) l26 c26 k26).binds (ps := ["one", "other", "names"]) fun _ _ _ _ _ _ us hl => match us, hl with | [_, _, _], _ => rfl⟩, sc_are_alike_at⟩
  f_breach_of := ⟨⟨f27, _, fun_mk (st := topS 44) l27 c27 k27, PySem.W.mg_of X G a27, (fun_mk (st := topS 44) l27 c27 k27).binds (ps := ["table", "rule"]) fun _ _ _ _ _ _ us hl => match us, hl with | [_, _], _ => rfl⟩, sc_breach_of⟩
  f_row_of := ⟨⟨f28, _, fun_mk (st := topS 45) l28 c28 k28, PySem.W.mg_of X G a28, (fun_mk (st := topS 45) l28 c28 k28).binds (ps := ["names", "numbers"]) fun _ _ _ _ _ _ us hl => match us, hl with | [_, _], _ => rfl⟩, sc_row_of⟩
  f_are_names := ⟨⟨f29, _, fun_mk (st := topS 46) l29 c29 k29, PySem.W.mg_of X G a29, (fun_mk (st := topS 46) l29 c29 k29).binds (ps := ["value"]) fun _ _ _ _ _ _ us hl => match us, hl with | [_], _ => rfl⟩, sc_are_names⟩
  f_are_rules := ⟨⟨f30, _, fun_mk (st := topS 47) l30 c30 k30, PySem.W.mg_of X G a30, (fun_mk (st := topS 47) l30 c30 k30).binds (ps := ["names", "value"]) fun _ _ _ _ _ _ us hl => match us, hl with | [_, _], _ => rfl⟩, sc_are_rules⟩
  f_settled := ⟨⟨f31, _, fun_mk (st := topS 48) l31 c31 k31, PySem.W.mg_of X G a31, (fun_mk (st := topS 48) l31 c31 k31).binds (ps := ["names", "rules", "some"]) fun _ _ _ _ _ _ us hl => match us, hl with | [_, _, _], _ => rfl⟩, sc_settled⟩
  f_follows := ⟨⟨f32, _, fun_mk (st := topS 49) l32 c32 k32, PySem.W.mg_of X G a32, (fun_mk (st := topS 49) l32 c32 k32).binds (ps := ["names", "rules", "rule"]) fun _ _ _ _ _ _ us hl => match us, hl with | [_, _, _], _ => rfl⟩, sc_follows⟩
  f_proof := ⟨⟨f33, _, fun_mk (st := topS 50) l33 c33 k33, PySem.W.mg_of X G a33, (fun_mk (st := topS 50) l33 c33 k33).binds (ps := ["names", "rules", "rule"]) fun _ _ _ _ _ _ us hl => match us, hl with | [_, _, _], _ => rfl⟩, sc_proof⟩
  f_is_proof := ⟨⟨f34, _, fun_mk (st := topS 51) l34 c34 k34, PySem.W.mg_of X G a34, (fun_mk (st := topS 51) l34 c34 k34).binds (ps := ["names", "rules", "rule", "value"]) fun _ _ _ _ _ _ us hl => match us, hl with | [_, _, _, _], _ => rfl⟩, sc_is_proof⟩
  f_against := ⟨⟨f35, _, fun_mk (st := topS 52) l35 c35 k35, PySem.W.mg_of X G a35, (fun_mk (st := topS 52) l35 c35 k35).binds (ps := ["names", "rules", "rule"]) fun _ _ _ _ _ _ us hl => match us, hl with | [_, _, _], _ => rfl⟩, sc_against⟩
  f_breach := ⟨⟨f36, _, fun_mk (st := topS 53) l36 c36 k36, PySem.W.mg_of X G a36, (fun_mk (st := topS 53) l36 c36 k36).binds (ps := ["names", "table", "rule"]) fun _ _ _ _ _ _ us hl => match us, hl with | [_, _, _], _ => rfl⟩, sc_breach⟩
  f__law_cup := ⟨⟨f37, _, fun_mk (st := topS 55) l37 c37 k37, PySem.W.mg_of X G a37, (fun_mk (st := topS 55) l37 c37 k37).binds (ps := ["script"]) fun _ _ _ _ _ _ us hl => match us, hl with | [_], _ => rfl⟩, sc__law_cup⟩
  f__law_roll := ⟨⟨f38, _, fun_mk (st := topS 56) l38 c38 k38, PySem.W.mg_of X G a38, (fun_mk (st := topS 56) l38 c38 k38).binds (ps := ["cup", "many"]) fun _ _ _ _ _ _ us hl => match us, hl with | [_, _], _ => rfl⟩, sc__law_roll⟩
  f__law_some := ⟨⟨f39, _, fun_mk (st := topS 57) l39 c39 k39, PySem.W.mg_of X G a39, (fun_mk (st := topS 57) l39 c39 k39).binds (ps := ["cup", "things"]) fun _ _ _ _ _ _ us hl => match us, hl with | [_, _], _ => rfl⟩, sc__law_some⟩
  f__law_same := ⟨⟨f40, _, fun_mk (st := topS 58) l40 c40 k40, PySem.W.mg_of X G a40, (fun_mk (st := topS 58) l40 c40 k40).binds (ps := ["told", "due"]) fun _ _ _ _ _ _ us hl => match us, hl with | [_, _], _ => rfl⟩, sc__law_same⟩
  f__law_names := ⟨⟨f41, _, fun_mk (st := topS 60) l41 c41 k41, PySem.W.mg_of X G a41, (fun_mk (st := topS 60) l41 c41 k41).binds (ps := ["cup", "most"]) fun _ _ _ _ _ _ us hl => match us, hl with | [_, _], _ => rfl⟩, sc__law_names⟩
  f__law_part := ⟨⟨f42, _, fun_mk (st := topS 61) l42 c42 k42, PySem.W.mg_of X G a42, (fun_mk (st := topS 61) l42 c42 k42).binds (ps := ["cup", "names", "least"]) fun _ _ _ _ _ _ us hl => match us, hl with | [_, _, _], _ => rfl⟩, sc__law_part⟩
  f__law_rules := ⟨⟨f43, _, fun_mk (st := topS 62) l43 c43 k43, PySem.W.mg_of X G a43, (fun_mk (st := topS 62) l43 c43 k43).binds (ps := ["cup", "names", "most"]) fun _ _ _ _ _ _ us hl => match us, hl with | [_, _, _], _ => rfl⟩, sc__law_rules⟩
  f__law_settled := ⟨⟨f44, _, fun_mk (st := topS 63) l44 c44 k44, PySem.W.mg_of X G a44, (fun_mk (st := topS 63) l44 c44 k44).binds (ps := ["rules", "some"]) fun _ _ _ _ _ _ us hl => match us, hl with | [_, _], _ => rfl⟩, sc__law_settled⟩
  f__law_doc_of := ⟨⟨f45, _, fun_mk (st := topS 64) l45 c45 k45, PySem.W.mg_of X G a45, (fun_mk (st := topS 64) l45 c45 k45).binds (ps := ["names", "values"]) fun _ _ _ _ _ _ us hl => match us, hl with | [_, _], _ => rfl⟩, sc__law_doc_of⟩
  f__law_values := ⟨⟨f46, _, fun_mk (st := topS 65) l46 c46 k46, PySem.W.mg_of X G a46, (fun_mk (st := topS 65) l46 c46 k46).binds (ps := ["document", "some"]) fun _ _ _ _ _ _ us hl => match us, hl with | [_, _], _ => rfl⟩, sc__law_values⟩
  f__law_breach := ⟨⟨f47, _, fun_mk (st := topS 66) l47 c47 k47, PySem.W.mg_of X G a47, (fun_mk (st := topS 66) l47 c47 k47).binds (ps := ["table", "rule"]) fun _ _ _ _ _ _ us hl => match us, hl with | [_, _], _ => rfl⟩, sc__law_breach⟩
  f__law_keeps := ⟨⟨f48, _, fun_mk (st := topS 67) l48 c48 k48, PySem.W.mg_of X G a48, (fun_mk (st := topS 67) l48 c48 k48).binds (ps := ["table", "rules"]) fun _ _ _ _ _ _ us hl => match us, hl with | [_, _], _ => rfl⟩, sc__law_keeps⟩
  f__law_proof := ⟨⟨f49, _, fun_mk (st := topS 68) l49 c49 k49, PySem.W.mg_of X G a49, (fun_mk (st := topS 68) l49 c49 k49).binds (ps := ["rules", "rule"]) fun _ _ _ _ _ _ us hl => match us, hl with | [_, _], _ => rfl⟩, sc__law_proof⟩
  f__law_is_proof := ⟨⟨f50, _, fun_mk (st := topS 69) l50 c50 k50, PySem.W.mg_of X G a50, (fun_mk (st := topS 69) l50 c50 k50).binds (ps := ["rules", "rule", "value"]) fun _ _ _ _ _ _ us hl => match us, hl with | [_, _, _], _ => rfl⟩, sc__law_is_proof⟩
  f__law_odds_right := ⟨⟨f51, _, fun_mk (st := topS 70) l51 c51 k51, PySem.W.mg_of X G a51, (fun_mk (st := topS 70) l51 c51 k51).binds (ps := ["names", "rules"]) fun _ _ _ _ _ _ us hl => match us, hl with | [_, _], _ => rfl⟩, sc__law_odds_right⟩
  f_law := ⟨⟨f52, _, fun_mk (st := topS 71) l52 c52 k52, PySem.W.mg_of X G a52, (fun_mk (st := topS 71) l52 c52 k52).binds (ps := ["script"]) fun _ _ _ _ _ _ us hl => match us, hl with | [_], _ => rfl⟩, sc_law⟩
  blt := all_cons (PySem.W.mg_none_of X G z_len) (all_cons (PySem.W.mg_none_of X G z_range) (all_cons (PySem.W.mg_none_of X G z_int) (all_cons (PySem.W.mg_none_of X G z_str) (all_cons (PySem.W.mg_none_of X G z_abs) (all_cons (PySem.W.mg_none_of X G z_all) (all_cons (PySem.W.mg_none_of X G z_any) (all_cons (PySem.W.mg_none_of X G z_tuple) (all_cons (PySem.W.mg_none_of X G z_list) (all_cons (PySem.W.mg_none_of X G z_sorted) (all_cons (PySem.W.mg_none_of X G z_isinstance) (all_cons (PySem.W.mg_none_of X G z_zip) (all_cons (PySem.W.mg_none_of X G z_enumerate) (all_cons (PySem.W.mg_none_of X G z_ord) (all_cons (PySem.W.mg_none_of X G z_set) (all_cons (PySem.W.mg_none_of X G z_dict) (all_cons (PySem.W.mg_none_of X G z_bool) (all_cons (PySem.W.mg_none_of X G z_max) (all_cons (PySem.W.mg_none_of X G z_min) (all_cons (PySem.W.mg_none_of X G z_sum) (all_cons (PySem.W.mg_none_of X G z_chr) (all_cons (PySem.W.mg_none_of X G z_reversed) (all_nil))))))))))))))))))))))
  gl := all_cons (⟨.int (1000000000000), .int (1000000000000) t_HIGHEST, PySem.W.mg_of X G g_HIGHEST, ⟨t_HIGHEST, rfl⟩, fun _ _ => .int _, fun _ _ e => nomatch e⟩) (all_cons (⟨.int (40), .int (40) t_LONGEST, PySem.W.mg_of X G g_LONGEST, ⟨t_LONGEST, rfl⟩, fun _ _ => .int _, fun _ _ e => nomatch e⟩) (all_cons (⟨.int (16), .int (16) t_MOST, PySem.W.mg_of X G g_MOST, ⟨t_MOST, rfl⟩, fun _ _ => .int _, fun _ _ e => nomatch e⟩) (all_cons (⟨.int (6), .int (6) t_DEEP, PySem.W.mg_of X G g_DEEP, ⟨t_DEEP, rfl⟩, fun _ _ => .int _, fun _ _ e => nomatch e⟩) (all_cons (⟨.int (8), .int (8) t_NAME, PySem.W.mg_of X G g_NAME, ⟨t_NAME, rfl⟩, fun _ _ => .int _, fun _ _ e => nomatch e⟩) (all_cons (⟨.str "abcdefghijklmnopqrstuvwxyz", .str "abcdefghijklmnopqrstuvwxyz" t_SMALL, PySem.W.mg_of X G g_SMALL, ⟨t_SMALL, rfl⟩, fun _ _ => .str (okS_of (by decide +kernel)), fun _ _ e => nomatch e⟩) (all_cons (⟨.str "abcdefghijklmnopqrstuvwxyz0123456789", .str "abcdefghijklmnopqrstuvwxyz0123456789" t_SIGNS, PySem.W.mg_of X G g_SIGNS, ⟨t_SIGNS, rfl⟩, fun _ _ => .str (okS_of (by decide +kernel)), fun _ _ e => nomatch e⟩) (all_cons (⟨.ref r_KINDS, .ref r_KINDS, PySem.W.mg_of X G g_KINDS, rfl, fun _ _ => .tup (vs := [.str "null", .str "number", .str "text", .str "doc", .str "list", .str "truth"]) (.inr ⟨_, _, _, h_KINDS, rfl, rfl, (by show 6 ≤ sizeLine; decide), .cons ⟨t_KINDS_0, rfl⟩ (.cons ⟨t_KINDS_1, rfl⟩ (.cons ⟨t_KINDS_2, rfl⟩ (.cons ⟨t_KINDS_3, rfl⟩ (.cons ⟨t_KINDS_4, rfl⟩ (.cons ⟨t_KINDS_5, rfl⟩ (.nil))))))⟩) (.cons (.str (okS_of (by decide +kernel))) (.cons (.str (okS_of (by decide +kernel))) (.cons (.str (okS_of (by decide +kernel))) (.cons (.str (okS_of (by decide +kernel))) (.cons (.str (okS_of (by decide +kernel))) (.cons (.str (okS_of (by decide +kernel))) (.nil))))))), fun a ds _ e => by cases e; exact ⟨_, h_KINDS, rfl, rfl⟩⟩) (all_cons (⟨.int (8), .int (8) t_NAMES, PySem.W.mg_of X G g_NAMES, ⟨t_NAMES, rfl⟩, fun _ _ => .int _, fun _ _ e => nomatch e⟩) (all_cons (⟨.int (12), .int (12) t_RULES, PySem.W.mg_of X G g_RULES, ⟨t_RULES, rfl⟩, fun _ _ => .int _, fun _ _ e => nomatch e⟩) (all_cons (⟨.int (10), .int (10) t_ROWS, PySem.W.mg_of X G g_ROWS, ⟨t_ROWS, rfl⟩, fun _ _ => .int _, fun _ _ e => nomatch e⟩) (all_nil)))))))))))
theorem law_head {l : PySem.W.OpenLaw} {w : World} {K : PySem.W.Frag} {mg : Str → Option Value} {fa : Addr} (F : Facts K mg) (hfa : mg "law" = some (.ref fa)) (k : Nat) :
    ∃ fd : FuncData, (∀ (s : Shared) (v : Value), BindsTo s fd ⟨[v], []⟩ [("script", v)]) ∧ ∀ base : Heap, FnOk l.prog w K mg base CX0 (k + 1) fa fd ["script"] (prom K 1 (runB 1 27 (b_law (callF k)))) := by
  obtain ⟨f, fd, h1, h2, h3⟩ := F.f_law.ex
  have e := hfa.symm.trans h2
  cases e
  refine ⟨fd, fun s v => ?_, fun base => fn_ok h1 sc_law (d_law (callF k)) (tab_ok F k)⟩
  obtain ⟨oc, od, kV, doc, pm, an, cdv, ct, osl, rfl, lk, hcd⟩ := h1.ex
  exact .of_eq rfl
theorem all_mk {l : PySem.W.OpenLaw} {w : World} {K : PySem.W.Frag} {h : Heap} {mg : Str → Option Value} {fa : Addr} (k : Nat) (X : K.In h) (G : h.Ns mainGlobals mg) (hfa : mg "law" = some (.ref fa))
    {f0 : Addr} {od0 an0 : Option Addr} {sl0 : Array (Option Value)} {oc0 kV0 dc0 pm0 cd0 ct0 : Value}
    {f1 : Addr} {od1 an1 : Option Addr} {sl1 : Array (Option Value)} {oc1 kV1 dc1 pm1 cd1 ct1 : Value}
    {f2 : Addr} {od2 an2 : Option Addr} {sl2 : Array (Option Value)} {oc2 kV2 dc2 pm2 cd2 ct2 : Value}
    {f3 : Addr} {od3 an3 : Option Addr} {sl3 : Array (Option Value)} {oc3 kV3 dc3 pm3 cd3 ct3 : Value}
    {f4 : Addr} {od4 an4 : Option Addr} {sl4 : Array (Option Value)} {oc4 kV4 dc4 pm4 cd4 ct4 : Value}
    {f5 : Addr} {od5 an5 : Option Addr} {sl5 : Array (Option Value)} {oc5 kV5 dc5 pm5 cd5 ct5 : Value}
    {f6 : Addr} {od6 an6 : Option Addr} {sl6 : Array (Option Value)} {oc6 kV6 dc6 pm6 cd6 ct6 : Value}
    {f7 : Addr} {od7 an7 : Option Addr} {sl7 : Array (Option Value)} {oc7 kV7 dc7 pm7 cd7 ct7 : Value}
    {f8 : Addr} {od8 an8 : Option Addr} {sl8 : Array (Option Value)} {oc8 kV8 dc8 pm8 cd8 ct8 : Value}
    {f9 : Addr} {od9 an9 : Option Addr} {sl9 : Array (Option Value)} {oc9 kV9 dc9 pm9 cd9 ct9 : Value}
    {f10 : Addr} {od10 an10 : Option Addr} {sl10 : Array (Option Value)} {oc10 kV10 dc10 pm10 cd10 ct10 : Value}
    {f11 : Addr} {od11 an11 : Option Addr} {sl11 : Array (Option Value)} {oc11 kV11 dc11 pm11 cd11 ct11 : Value}
    {f12 : Addr} {od12 an12 : Option Addr} {sl12 : Array (Option Value)} {oc12 kV12 dc12 pm12 cd12 ct12 : Value}
    {f13 : Addr} {od13 an13 : Option Addr} {sl13 : Array (Option Value)} {oc13 kV13 dc13 pm13 cd13 ct13 : Value}
    {f14 : Addr} {od14 an14 : Option Addr} {sl14 : Array (Option Value)} {oc14 kV14 dc14 pm14 cd14 ct14 : Value}
    {f15 : Addr} {od15 an15 : Option Addr} {sl15 : Array (Option Value)} {oc15 kV15 dc15 pm15 cd15 ct15 : Value}
    {f16 : Addr} {od16 an16 : Option Addr} {sl16 : Array (Option Value)} {oc16 kV16 dc16 pm16 cd16 ct16 : Value}
    {f17 : Addr} {od17 an17 : Option Addr} {sl17 : Array (Option Value)} {oc17 kV17 dc17 pm17 cd17 ct17 : Value}
    {f18 : Addr} {od18 an18 : Option Addr} {sl18 : Array (Option Value)} {oc18 kV18 dc18 pm18 cd18 ct18 : Value}
    {f19 : Addr} {od19 an19 : Option Addr} {sl19 : Array (Option Value)} {oc19 kV19 dc19 pm19 cd19 ct19 : Value}
    {f20 : Addr} {od20 an20 : Option Addr} {sl20 : Array (Option Value)} {oc20 kV20 dc20 pm20 cd20 ct20 : Value}
    {f21 : Addr} {od21 an21 : Option Addr} {sl21 : Array (Option Value)} {oc21 kV21 dc21 pm21 cd21 ct21 : Value}
    {f22 : Addr} {od22 an22 : Option Addr} {sl22 : Array (Option Value)} {oc22 kV22 dc22 pm22 cd22 ct22 : Value}
    {f23 : Addr} {od23 an23 : Option Addr} {sl23 : Array (Option Value)} {oc23 kV23 dc23 pm23 cd23 ct23 : Value}
    {f24 : Addr} {od24 an24 : Option Addr} {sl24 : Array (Option Value)} {oc24 kV24 dc24 pm24 cd24 ct24 : Value}
    {f25 : Addr} {od25 an25 : Option Addr} {sl25 : Array (Option Value)} {oc25 kV25 dc25 pm25 cd25 ct25 : Value}
    {f26 : Addr} {od26 an26 : Option Addr} {sl26 : Array (Option Value)} {oc26 kV26 dc26 pm26 cd26 ct26 : Value}
    {f27 : Addr} {od27 an27 : Option Addr} {sl27 : Array (Option Value)} {oc27 kV27 dc27 pm27 cd27 ct27 : Value}
    {f28 : Addr} {od28 an28 : Option Addr} {sl28 : Array (Option Value)} {oc28 kV28 dc28 pm28 cd28 ct28 : Value}
    {f29 : Addr} {od29 an29 : Option Addr} {sl29 : Array (Option Value)} {oc29 kV29 dc29 pm29 cd29 ct29 : Value}
    {f30 : Addr} {od30 an30 : Option Addr} {sl30 : Array (Option Value)} {oc30 kV30 dc30 pm30 cd30 ct30 : Value}
    {f31 : Addr} {od31 an31 : Option Addr} {sl31 : Array (Option Value)} {oc31 kV31 dc31 pm31 cd31 ct31 : Value}
    {f32 : Addr} {od32 an32 : Option Addr} {sl32 : Array (Option Value)} {oc32 kV32 dc32 pm32 cd32 ct32 : Value}
    {f33 : Addr} {od33 an33 : Option Addr} {sl33 : Array (Option Value)} {oc33 kV33 dc33 pm33 cd33 ct33 : Value}
    {f34 : Addr} {od34 an34 : Option Addr} {sl34 : Array (Option Value)} {oc34 kV34 dc34 pm34 cd34 ct34 : Value}
    {f35 : Addr} {od35 an35 : Option Addr} {sl35 : Array (Option Value)} {oc35 kV35 dc35 pm35 cd35 ct35 : Value}
    {f36 : Addr} {od36 an36 : Option Addr} {sl36 : Array (Option Value)} {oc36 kV36 dc36 pm36 cd36 ct36 : Value}
    {f37 : Addr} {od37 an37 : Option Addr} {sl37 : Array (Option Value)} {oc37 kV37 dc37 pm37 cd37 ct37 : Value}
    {f38 : Addr} {od38 an38 : Option Addr} {sl38 : Array (Option Value)} {oc38 kV38 dc38 pm38 cd38 ct38 : Value}
    {f39 : Addr} {od39 an39 : Option Addr} {sl39 : Array (Option Value)} {oc39 kV39 dc39 pm39 cd39 ct39 : Value}
    {f40 : Addr} {od40 an40 : Option Addr} {sl40 : Array (Option Value)} {oc40 kV40 dc40 pm40 cd40 ct40 : Value}
    {f41 : Addr} {od41 an41 : Option Addr} {sl41 : Array (Option Value)} {oc41 kV41 dc41 pm41 cd41 ct41 : Value}
    {f42 : Addr} {od42 an42 : Option Addr} {sl42 : Array (Option Value)} {oc42 kV42 dc42 pm42 cd42 ct42 : Value}
    {f43 : Addr} {od43 an43 : Option Addr} {sl43 : Array (Option Value)} {oc43 kV43 dc43 pm43 cd43 ct43 : Value}
    {f44 : Addr} {od44 an44 : Option Addr} {sl44 : Array (Option Value)} {oc44 kV44 dc44 pm44 cd44 ct44 : Value}
    {f45 : Addr} {od45 an45 : Option Addr} {sl45 : Array (Option Value)} {oc45 kV45 dc45 pm45 cd45 ct45 : Value}
    {f46 : Addr} {od46 an46 : Option Addr} {sl46 : Array (Option Value)} {oc46 kV46 dc46 pm46 cd46 ct46 : Value}
    {f47 : Addr} {od47 an47 : Option Addr} {sl47 : Array (Option Value)} {oc47 kV47 dc47 pm47 cd47 ct47 : Value}
    {f48 : Addr} {od48 an48 : Option Addr} {sl48 : Array (Option Value)} {oc48 kV48 dc48 pm48 cd48 ct48 : Value}
    {f49 : Addr} {od49 an49 : Option Addr} {sl49 : Array (Option Value)} {oc49 kV49 dc49 pm49 cd49 ct49 : Value}
    {f50 : Addr} {od50 an50 : Option Addr} {sl50 : Array (Option Value)} {oc50 kV50 dc50 pm50 cd50 ct50 : Value}
    {f51 : Addr} {od51 an51 : Option Addr} {sl51 : Array (Option Value)} {oc51 kV51 dc51 pm51 cd51 ct51 : Value}
    {f52 : Addr} {od52 an52 : Option Addr} {sl52 : Array (Option Value)} {oc52 kV52 dc52 pm52 cd52 ct52 : Value}
    {t_HIGHEST : Tok}
    {t_LONGEST : Tok}
    {t_MOST : Tok}
    {t_DEEP : Tok}
    {t_NAME : Tok}
    {t_SMALL : Tok}
    {t_SIGNS : Tok}
    {r_KINDS : Addr} {n_KINDS : Nat} {sl_KINDS : Array (Option Value)} {t_KINDS_0 t_KINDS_1 t_KINDS_2 t_KINDS_3 t_KINDS_4 t_KINDS_5 : Tok}
    {t_NAMES : Tok}
    {t_RULES : Tok}
    {t_ROWS : Tok}
    (a0 : PySem.W.nsIn K mainGlobals "is_whole" = some (some (.ref f0))) (l0 : K.lookup f0 = some ⟨oc0, od0, .func (PySem.W.fnOf "is_whole" "is_whole" (defArgs (topS 12)) (defBody (topS 12)) (defScope (topS 12)) .none kV0 dc0 pm0 an0 cd0 ct0), sl0⟩) (c0 : PySem.W.codeIn K cd0 "is_whole" = true) (k0 : PySem.W.keepIn K (.ref f0) = true)
    (a1 : PySem.W.nsIn K mainGlobals "is_tuple_of" = some (some (.ref f1))) (l1 : K.lookup f1 = some ⟨oc1, od1, .func (PySem.W.fnOf "is_tuple_of" "is_tuple_of" (defArgs (topS 13)) (defBody (topS 13)) (defScope (topS 13)) .none kV1 dc1 pm1 an1 cd1 ct1), sl1⟩) (c1 : PySem.W.codeIn K cd1 "is_tuple_of" = true) (k1 : PySem.W.keepIn K (.ref f1) = true)
    (a2 : PySem.W.nsIn K mainGlobals "is_name" = some (some (.ref f2))) (l2 : K.lookup f2 = some ⟨oc2, od2, .func (PySem.W.fnOf "is_name" "is_name" (defArgs (topS 14)) (defBody (topS 14)) (defScope (topS 14)) .none kV2 dc2 pm2 an2 cd2 ct2), sl2⟩) (c2 : PySem.W.codeIn K cd2 "is_name" = true) (k2 : PySem.W.keepIn K (.ref f2) = true)
    (a3 : PySem.W.nsIn K mainGlobals "is_text_sign" = some (some (.ref f3))) (l3 : K.lookup f3 = some ⟨oc3, od3, .func (PySem.W.fnOf "is_text_sign" "is_text_sign" (defArgs (topS 15)) (defBody (topS 15)) (defScope (topS 15)) .none kV3 dc3 pm3 an3 cd3 ct3), sl3⟩) (c3 : PySem.W.codeIn K cd3 "is_text_sign" = true) (k3 : PySem.W.keepIn K (.ref f3) = true)
    (a4 : PySem.W.nsIn K mainGlobals "fits_plain" = some (some (.ref f4))) (l4 : K.lookup f4 = some ⟨oc4, od4, .func (PySem.W.fnOf "fits_plain" "fits_plain" (defArgs (topS 16)) (defBody (topS 16)) (defScope (topS 16)) .none kV4 dc4 pm4 an4 cd4 ct4), sl4⟩) (c4 : PySem.W.codeIn K cd4 "fits_plain" = true) (k4 : PySem.W.keepIn K (.ref f4) = true)
    (a5 : PySem.W.nsIn K mainGlobals "is_knot" = some (some (.ref f5))) (l5 : K.lookup f5 = some ⟨oc5, od5, .func (PySem.W.fnOf "is_knot" "is_knot" (defArgs (topS 17)) (defBody (topS 17)) (defScope (topS 17)) .none kV5 dc5 pm5 an5 cd5 ct5), sl5⟩) (c5 : PySem.W.codeIn K cd5 "is_knot" = true) (k5 : PySem.W.keepIn K (.ref f5) = true)
    (a6 : PySem.W.nsIn K mainGlobals "fits_fields" = some (some (.ref f6))) (l6 : K.lookup f6 = some ⟨oc6, od6, .func (PySem.W.fnOf "fits_fields" "fits_fields" (defArgs (topS 18)) (defBody (topS 18)) (defScope (topS 18)) .none kV6 dc6 pm6 an6 cd6 ct6), sl6⟩) (c6 : PySem.W.codeIn K cd6 "fits_fields" = true) (k6 : PySem.W.keepIn K (.ref f6) = true)
    (a7 : PySem.W.nsIn K mainGlobals "inner_of" = some (some (.ref f7))) (l7 : K.lookup f7 = some ⟨oc7, od7, .func (PySem.W.fnOf "inner_of" "inner_of" (defArgs (topS 19)) (defBody (topS 19)) (defScope (topS 19)) .none kV7 dc7 pm7 an7 cd7 ct7), sl7⟩) (c7 : PySem.W.codeIn K cd7 "inner_of" = true) (k7 : PySem.W.keepIn K (.ref f7) = true)
    (a8 : PySem.W.nsIn K mainGlobals "fits_value" = some (some (.ref f8))) (l8 : K.lookup f8 = some ⟨oc8, od8, .func (PySem.W.fnOf "fits_value" "fits_value" (defArgs (topS 20)) (defBody (topS 20)) (defScope (topS 20)) .none kV8 dc8 pm8 an8 cd8 ct8), sl8⟩) (c8 : PySem.W.codeIn K cd8 "fits_value" = true) (k8 : PySem.W.keepIn K (.ref f8) = true)
    (a9 : PySem.W.nsIn K mainGlobals "is_doc" = some (some (.ref f9))) (l9 : K.lookup f9 = some ⟨oc9, od9, .func (PySem.W.fnOf "is_doc" "is_doc" (defArgs (topS 21)) (defBody (topS 21)) (defScope (topS 21)) .none kV9 dc9 pm9 an9 cd9 ct9), sl9⟩) (c9 : PySem.W.codeIn K cd9 "is_doc" = true) (k9 : PySem.W.keepIn K (.ref f9) = true)
    (a10 : PySem.W.nsIn K mainGlobals "kind_in" = some (some (.ref f10))) (l10 : K.lookup f10 = some ⟨oc10, od10, .func (PySem.W.fnOf "kind_in" "kind_in" (defArgs (topS 22)) (defBody (topS 22)) (defScope (topS 22)) .none kV10 dc10 pm10 an10 cd10 ct10), sl10⟩) (c10 : PySem.W.codeIn K cd10 "kind_in" = true) (k10 : PySem.W.keepIn K (.ref f10) = true)
    (a11 : PySem.W.nsIn K mainGlobals "sign_of" = some (some (.ref f11))) (l11 : K.lookup f11 = some ⟨oc11, od11, .func (PySem.W.fnOf "sign_of" "sign_of" (defArgs (topS 24)) (defBody (topS 24)) (defScope (topS 24)) .none kV11 dc11 pm11 an11 cd11 ct11), sl11⟩) (c11 : PySem.W.codeIn K cd11 "sign_of" = true) (k11 : PySem.W.keepIn K (.ref f11) = true)
    (a12 : PySem.W.nsIn K mainGlobals "compared" = some (some (.ref f12))) (l12 : K.lookup f12 = some ⟨oc12, od12, .func (PySem.W.fnOf "compared" "compared" (defArgs (topS 25)) (defBody (topS 25)) (defScope (topS 25)) .none kV12 dc12 pm12 an12 cd12 ct12), sl12⟩) (c12 : PySem.W.codeIn K cd12 "compared" = true) (k12 : PySem.W.keepIn K (.ref f12) = true)
    (a13 : PySem.W.nsIn K mainGlobals "are_alike" = some (some (.ref f13))) (l13 : K.lookup f13 = some ⟨oc13, od13, .func (PySem.W.fnOf "are_alike" "are_alike" (defArgs (topS 26)) (defBody (topS 26)) (defScope (topS 26)) .none kV13 dc13 pm13 an13 cd13 ct13), sl13⟩) (c13 : PySem.W.codeIn K cd13 "are_alike" = true) (k13 : PySem.W.keepIn K (.ref f13) = true)
    (a14 : PySem.W.nsIn K mainGlobals "fits_names" = some (some (.ref f14))) (l14 : K.lookup f14 = some ⟨oc14, od14, .func (PySem.W.fnOf "fits_names" "fits_names" (defArgs (topS 31)) (defBody (topS 31)) (defScope (topS 31)) .none kV14 dc14 pm14 an14 cd14 ct14), sl14⟩) (c14 : PySem.W.codeIn K cd14 "fits_names" = true) (k14 : PySem.W.keepIn K (.ref f14) = true)
    (a15 : PySem.W.nsIn K mainGlobals "fits_some" = some (some (.ref f15))) (l15 : K.lookup f15 = some ⟨oc15, od15, .func (PySem.W.fnOf "fits_some" "fits_some" (defArgs (topS 32)) (defBody (topS 32)) (defScope (topS 32)) .none kV15 dc15 pm15 an15 cd15 ct15), sl15⟩) (c15 : PySem.W.codeIn K cd15 "fits_some" = true) (k15 : PySem.W.keepIn K (.ref f15) = true)
    (a16 : PySem.W.nsIn K mainGlobals "fits_rule" = some (some (.ref f16))) (l16 : K.lookup f16 = some ⟨oc16, od16, .func (PySem.W.fnOf "fits_rule" "fits_rule" (defArgs (topS 33)) (defBody (topS 33)) (defScope (topS 33)) .none kV16 dc16 pm16 an16 cd16 ct16), sl16⟩) (c16 : PySem.W.codeIn K cd16 "fits_rule" = true) (k16 : PySem.W.keepIn K (.ref f16) = true)
    (a17 : PySem.W.nsIn K mainGlobals "fits_rules" = some (some (.ref f17))) (l17 : K.lookup f17 = some ⟨oc17, od17, .func (PySem.W.fnOf "fits_rules" "fits_rules" (defArgs (topS 34)) (defBody (topS 34)) (defScope (topS 34)) .none kV17 dc17 pm17 an17 cd17 ct17), sl17⟩) (c17 : PySem.W.codeIn K cd17 "fits_rules" = true) (k17 : PySem.W.keepIn K (.ref f17) = true)
    (a18 : PySem.W.nsIn K mainGlobals "fits_table" = some (some (.ref f18))) (l18 : K.lookup f18 = some ⟨oc18, od18, .func (PySem.W.fnOf "fits_table" "fits_table" (defArgs (topS 35)) (defBody (topS 35)) (defScope (topS 35)) .none kV18 dc18 pm18 an18 cd18 ct18), sl18⟩) (c18 : PySem.W.codeIn K cd18 "fits_table" = true) (k18 : PySem.W.keepIn K (.ref f18) = true)
    (a19 : PySem.W.nsIn K mainGlobals "need_names" = some (some (.ref f19))) (l19 : K.lookup f19 = some ⟨oc19, od19, .func (PySem.W.fnOf "need_names" "need_names" (defArgs (topS 36)) (defBody (topS 36)) (defScope (topS 36)) .none kV19 dc19 pm19 an19 cd19 ct19), sl19⟩) (c19 : PySem.W.codeIn K cd19 "need_names" = true) (k19 : PySem.W.keepIn K (.ref f19) = true)
    (a20 : PySem.W.nsIn K mainGlobals "need_rules" = some (some (.ref f20))) (l20 : K.lookup f20 = some ⟨oc20, od20, .func (PySem.W.fnOf "need_rules" "need_rules" (defArgs (topS 37)) (defBody (topS 37)) (defScope (topS 37)) .none kV20 dc20 pm20 an20 cd20 ct20), sl20⟩) (c20 : PySem.W.codeIn K cd20 "need_rules" = true) (k20 : PySem.W.keepIn K (.ref f20) = true)
    (a21 : PySem.W.nsIn K mainGlobals "need_rule" = some (some (.ref f21))) (l21 : K.lookup f21 = some ⟨oc21, od21, .func (PySem.W.fnOf "need_rule" "need_rule" (defArgs (topS 38)) (defBody (topS 38)) (defScope (topS 38)) .none kV21 dc21 pm21 an21 cd21 ct21), sl21⟩) (c21 : PySem.W.codeIn K cd21 "need_rule" = true) (k21 : PySem.W.keepIn K (.ref f21) = true)
    (a22 : PySem.W.nsIn K mainGlobals "need_table" = some (some (.ref f22))) (l22 : K.lookup f22 = some ⟨oc22, od22, .func (PySem.W.fnOf "need_table" "need_table" (defArgs (topS 39)) (defBody (topS 39)) (defScope (topS 39)) .none kV22 dc22 pm22 an22 cd22 ct22), sl22⟩) (c22 : PySem.W.codeIn K cd22 "need_table" = true) (k22 : PySem.W.keepIn K (.ref f22) = true)
    (a23 : PySem.W.nsIn K mainGlobals "settled_by" = some (some (.ref f23))) (l23 : K.lookup f23 = some ⟨oc23, od23, .func (PySem.W.fnOf "settled_by" "settled_by" (defArgs (topS 40)) (defBody (topS 40)) (defScope (topS 40)) .none kV23 dc23 pm23 an23 cd23 ct23), sl23⟩) (c23 : PySem.W.codeIn K cd23 "settled_by" = true) (k23 : PySem.W.keepIn K (.ref f23) = true)
    (a24 : PySem.W.nsIn K mainGlobals "is_settled" = some (some (.ref f24))) (l24 : K.lookup f24 = some ⟨oc24, od24, .func (PySem.W.fnOf "is_settled" "is_settled" (defArgs (topS 41)) (defBody (topS 41)) (defScope (topS 41)) .none kV24 dc24 pm24 an24 cd24 ct24), sl24⟩) (c24 : PySem.W.codeIn K cd24 "is_settled" = true) (k24 : PySem.W.keepIn K (.ref f24) = true)
    (a25 : PySem.W.nsIn K mainGlobals "value_at" = some (some (.ref f25))) (l25 : K.lookup f25 = some ⟨oc25, od25, .func (PySem.W.fnOf "value_at" "value_at" (defArgs (topS 42)) (defBody (topS 42)) (defScope (topS 42)) .none kV25 dc25 pm25 an25 cd25 ct25), sl25⟩) (c25 : PySem.W.codeIn K cd25 "value_at" = true) (k25 : PySem.W.keepIn K (.ref f25) = true)
    (a26 : PySem.W.nsIn K mainGlobals "are_alike_at" = some (some (.ref f26))) (l26 : K.lookup f26 = some ⟨oc26, od26, .func (PySem.W.fnOf "are_alike_at" "are_alike_at" (defArgs (topS 43)) (defBody (topS 43)) (defScope (topS 43)) .none kV26 dc26 pm26 an26 cd26 ct26), sl26⟩) (c26 : PySem.W.codeIn K cd26 "are_alike_at" = true) (k26 : PySem.W.keepIn K (.ref f26) = true)
    (a27 : PySem.W.nsIn K mainGlobals "breach_of" = some (some (.ref f27))) (l27 : K.lookup f27 = some ⟨oc27, od27, .func (PySem.W.fnOf "breach_of" "breach_of" (defArgs (topS 44)) (defBody (topS 44)) (defScope (topS 44)) .none kV27 dc27 pm27 an27 cd27 ct27), sl27⟩) (c27 : PySem.W.codeIn K cd27 "breach_of" = true) (k27 : PySem.W.keepIn K (.ref f27) = true)
    (a28 : PySem.W.nsIn K mainGlobals "row_of" = some (some (.ref f28))) (l28 : K.lookup f28 = some ⟨oc28, od28, .func (PySem.W.fnOf "row_of" "row_of" (defArgs (topS 45)) (defBody (topS 45)) (defScope (topS 45)) .none kV28 dc28 pm28 an28 cd28 ct28), sl28⟩) (c28 : PySem.W.codeIn K cd28 "row_of" = true) (k28 : PySem.W.keepIn K (.ref f28) = true)
    (a29 : PySem.W.nsIn K mainGlobals "are_names" = some (some (.ref f29))) (l29 : K.lookup f29 = some ⟨oc29, od29, .func (PySem.W.fnOf "are_names" "are_names" (defArgs (topS 46)) (defBody (topS 46)) (defScope (topS 46)) .none kV29 dc29 pm29 an29 cd29 ct29), sl29⟩) (c29 : PySem.W.codeIn K cd29 "are_names" = true) (k29 : PySem.W.keepIn K (.ref f29) = true)
    (a30 : PySem.W.nsIn K mainGlobals "are_rules" = some (some (.ref f30))) (l30 : K.lookup f30 = some ⟨oc30, od30, .func (PySem.W.fnOf "are_rules" "are_rules" (defArgs (topS 47)) (defBody (topS 47)) (defScope (topS 47)) .none kV30 dc30 pm30 an30 cd30 ct30), sl30⟩) (c30 : PySem.W.codeIn K cd30 "are_rules" = true) (k30 : PySem.W.keepIn K (.ref f30) = true)
    (a31 : PySem.W.nsIn K mainGlobals "settled" = some (some (.ref f31))) (l31 : K.lookup f31 = some ⟨oc31, od31, .func (PySem.W.fnOf "settled" "settled" (defArgs (topS 48)) (defBody (topS 48)) (defScope (topS 48)) .none kV31 dc31 pm31 an31 cd31 ct31), sl31⟩) (c31 : PySem.W.codeIn K cd31 "settled" = true) (k31 : PySem.W.keepIn K (.ref f31) = true)
    (a32 : PySem.W.nsIn K mainGlobals "follows" = some (some (.ref f32))) (l32 : K.lookup f32 = some ⟨oc32, od32, .func (PySem.W.fnOf "follows" "follows" (defArgs (topS 49)) (defBody (topS 49)) (defScope (topS 49)) .none kV32 dc32 pm32 an32 cd32 ct32), sl32⟩) (c32 : PySem.W.codeIn K cd32 "follows" = true) (k32 : PySem.W.keepIn K (.ref f32) = true)
    (a33 : PySem.W.nsIn K mainGlobals "proof" = some (some (.ref f33))) (l33 : K.lookup f33 = some ⟨oc33, od33, .func (PySem.W.fnOf "proof" "proof" (defArgs (topS 50)) (defBody (topS 50)) (defScope (topS 50)) .none kV33 dc33 pm33 an33 cd33 ct33), sl33⟩) (c33 : PySem.W.codeIn K cd33 "proof" = true) (k33 : PySem.W.keepIn K (.ref f33) = true)
    (a34 : PySem.W.nsIn K mainGlobals "is_proof" = some (some (.ref f34))) (l34 : K.lookup f34 = some ⟨oc34, od34, .func (PySem.W.fnOf "is_proof" "is_proof" (defArgs (topS 51)) (defBody (topS 51)) (defScope (topS 51)) .none kV34 dc34 pm34 an34 cd34 ct34), sl34⟩) (c34 : PySem.W.codeIn K cd34 "is_proof" = true) (k34 : PySem.W.keepIn K (.ref f34) = true)
    (a35 : PySem.W.nsIn K mainGlobals "against" = some (some (.ref f35))) (l35 : K.lookup f35 = some ⟨oc35, od35, .func (PySem.W.fnOf "against" "against" (defArgs (topS 52)) (defBody (topS 52)) (defScope (topS 52)) .none kV35 dc35 pm35 an35 cd35 ct35), sl35⟩) (c35 : PySem.W.codeIn K cd35 "against" = true) (k35 : PySem.W.keepIn K (.ref f35) = true)
    (a36 : PySem.W.nsIn K mainGlobals "breach" = some (some (.ref f36))) (l36 : K.lookup f36 = some ⟨oc36, od36, .func (PySem.W.fnOf "breach" "breach" (defArgs (topS 53)) (defBody (topS 53)) (defScope (topS 53)) .none kV36 dc36 pm36 an36 cd36 ct36), sl36⟩) (c36 : PySem.W.codeIn K cd36 "breach" = true) (k36 : PySem.W.keepIn K (.ref f36) = true)
    (a37 : PySem.W.nsIn K mainGlobals "_law_cup" = some (some (.ref f37))) (l37 : K.lookup f37 = some ⟨oc37, od37, .func (PySem.W.fnOf "_law_cup" "_law_cup" (defArgs (topS 55)) (defBody (topS 55)) (defScope (topS 55)) .none kV37 dc37 pm37 an37 cd37 ct37), sl37⟩) (c37 : PySem.W.codeIn K cd37 "_law_cup" = true) (k37 : PySem.W.keepIn K (.ref f37) = true)
    (a38 : PySem.W.nsIn K mainGlobals "_law_roll" = some (some (.ref f38))) (l38 : K.lookup f38 = some ⟨oc38, od38, .func (PySem.W.fnOf "_law_roll" "_law_roll" (defArgs (topS 56)) (defBody (topS 56)) (defScope (topS 56)) .none kV38 dc38 pm38 an38 cd38 ct38), sl38⟩) (c38 : PySem.W.codeIn K cd38 "_law_roll" = true) (k38 : PySem.W.keepIn K (.ref f38) = true)
    (a39 : PySem.W.nsIn K mainGlobals "_law_some" = some (some (.ref f39))) (l39 : K.lookup f39 = some ⟨oc39, od39, .func (PySem.W.fnOf "_law_some" "_law_some" (defArgs (topS 57)) (defBody (topS 57)) (defScope (topS 57)) .none kV39 dc39 pm39 an39 cd39 ct39), sl39⟩) (c39 : PySem.W.codeIn K cd39 "_law_some" = true) (k39 : PySem.W.keepIn K (.ref f39) = true)
    (a40 : PySem.W.nsIn K mainGlobals "_law_same" = some (some (.ref f40))) (l40 : K.lookup f40 = some ⟨oc40, od40, .func (PySem.W.fnOf "_law_same" "_law_same" (defArgs (topS 58)) (defBody (topS 58)) (defScope (topS 58)) .none kV40 dc40 pm40 an40 cd40 ct40), sl40⟩) (c40 : PySem.W.codeIn K cd40 "_law_same" = true) (k40 : PySem.W.keepIn K (.ref f40) = true)
    (a41 : PySem.W.nsIn K mainGlobals "_law_names" = some (some (.ref f41))) (l41 : K.lookup f41 = some ⟨oc41, od41, .func (PySem.W.fnOf "_law_names" "_law_names" (defArgs (topS 60)) (defBody (topS 60)) (defScope (topS 60)) .none kV41 dc41 pm41 an41 cd41 ct41), sl41⟩) (c41 : PySem.W.codeIn K cd41 "_law_names" = true) (k41 : PySem.W.keepIn K (.ref f41) = true)
    (a42 : PySem.W.nsIn K mainGlobals "_law_part" = some (some (.ref f42))) (l42 : K.lookup f42 = some ⟨oc42, od42, .func (PySem.W.fnOf "_law_part" "_law_part" (defArgs (topS 61)) (defBody (topS 61)) (defScope (topS 61)) .none kV42 dc42 pm42 an42 cd42 ct42), sl42⟩) (c42 : PySem.W.codeIn K cd42 "_law_part" = true) (k42 : PySem.W.keepIn K (.ref f42) = true)
    (a43 : PySem.W.nsIn K mainGlobals "_law_rules" = some (some (.ref f43))) (l43 : K.lookup f43 = some ⟨oc43, od43, .func (PySem.W.fnOf "_law_rules" "_law_rules" (defArgs (topS 62)) (defBody (topS 62)) (defScope (topS 62)) .none kV43 dc43 pm43 an43 cd43 ct43), sl43⟩) (c43 : PySem.W.codeIn K cd43 "_law_rules" = true) (k43 : PySem.W.keepIn K (.ref f43) = true)
    (a44 : PySem.W.nsIn K mainGlobals "_law_settled" = some (some (.ref f44))) (l44 : K.lookup f44 = some ⟨oc44, od44, .func (PySem.W.fnOf "_law_settled" "_law_settled" (defArgs (topS 63)) (defBody (topS 63)) (defScope (topS 63)) .none kV44 dc44 pm44 an44 cd44 ct44), sl44⟩) (c44 : PySem.W.codeIn K cd44 "_law_settled" = true) (k44 : PySem.W.keepIn K (.ref f44) = true)
    (a45 : PySem.W.nsIn K mainGlobals "_law_doc_of" = some (some (.ref f45))) (l45 : K.lookup f45 = some ⟨oc45, od45, .func (PySem.W.fnOf "_law_doc_of" "_law_doc_of" (defArgs (topS 64)) (defBody (topS 64)) (defScope (topS 64)) .none kV45 dc45 pm45 an45 cd45 ct45), sl45⟩) (c45 : PySem.W.codeIn K cd45 "_law_doc_of" = true) (k45 : PySem.W.keepIn K (.ref f45) = true)
    (a46 : PySem.W.nsIn K mainGlobals "_law_values" = some (some (.ref f46))) (l46 : K.lookup f46 = some ⟨oc46, od46, .func (PySem.W.fnOf "_law_values" "_law_values" (defArgs (topS 65)) (defBody (topS 65)) (defScope (topS 65)) .none kV46 dc46 pm46 an46 cd46 ct46), sl46⟩) (c46 : PySem.W.codeIn K cd46 "_law_values" = true) (k46 : PySem.W.keepIn K (.ref f46) = true)
    (a47 : PySem.W.nsIn K mainGlobals "_law_breach" = some (some (.ref f47))) (l47 : K.lookup f47 = some ⟨oc47, od47, .func (PySem.W.fnOf "_law_breach" "_law_breach" (defArgs (topS 66)) (defBody (topS 66)) (defScope (topS 66)) .none kV47 dc47 pm47 an47 cd47 ct47), sl47⟩) (c47 : PySem.W.codeIn K cd47 "_law_breach" = true) (k47 : PySem.W.keepIn K (.ref f47) = true)
    (a48 : PySem.W.nsIn K mainGlobals "_law_keeps" = some (some (.ref f48))) (l48 : K.lookup f48 = some ⟨oc48, od48, .func (PySem.W.fnOf "_law_keeps" "_law_keeps" (defArgs (topS 67)) (defBody (topS 67)) (defScope (topS 67)) .none kV48 dc48 pm48 an48 cd48 ct48), sl48⟩) (c48 : PySem.W.codeIn K cd48 "_law_keeps" = true) (k48 : PySem.W.keepIn K (.ref f48) = true)
    (a49 : PySem.W.nsIn K mainGlobals "_law_proof" = some (some (.ref f49))) (l49 : K.lookup f49 = some ⟨oc49, od49, .func (PySem.W.fnOf "_law_proof" "_law_proof" (defArgs (topS 68)) (defBody (topS 68)) (defScope (topS 68)) .none kV49 dc49 pm49 an49 cd49 ct49), sl49⟩) (c49 : PySem.W.codeIn K cd49 "_law_proof" = true) (k49 : PySem.W.keepIn K (.ref f49) = true)
    (a50 : PySem.W.nsIn K mainGlobals "_law_is_proof" = some (some (.ref f50))) (l50 : K.lookup f50 = some ⟨oc50, od50, .func (PySem.W.fnOf "_law_is_proof" "_law_is_proof" (defArgs (topS 69)) (defBody (topS 69)) (defScope (topS 69)) .none kV50 dc50 pm50 an50 cd50 ct50), sl50⟩) (c50 : PySem.W.codeIn K cd50 "_law_is_proof" = true) (k50 : PySem.W.keepIn K (.ref f50) = true)
    (a51 : PySem.W.nsIn K mainGlobals "_law_odds_right" = some (some (.ref f51))) (l51 : K.lookup f51 = some ⟨oc51, od51, .func (PySem.W.fnOf "_law_odds_right" "_law_odds_right" (defArgs (topS 70)) (defBody (topS 70)) (defScope (topS 70)) .none kV51 dc51 pm51 an51 cd51 ct51), sl51⟩) (c51 : PySem.W.codeIn K cd51 "_law_odds_right" = true) (k51 : PySem.W.keepIn K (.ref f51) = true)
    (a52 : PySem.W.nsIn K mainGlobals "law" = some (some (.ref f52))) (l52 : K.lookup f52 = some ⟨oc52, od52, .func (PySem.W.fnOf "law" "law" (defArgs (topS 71)) (defBody (topS 71)) (defScope (topS 71)) .none kV52 dc52 pm52 an52 cd52 ct52), sl52⟩) (c52 : PySem.W.codeIn K cd52 "law" = true) (k52 : PySem.W.keepIn K (.ref f52) = true)
    (z_len : PySem.W.nsIn K mainGlobals "len" = some none)
    (z_range : PySem.W.nsIn K mainGlobals "range" = some none)
    (z_int : PySem.W.nsIn K mainGlobals "int" = some none)
    (z_str : PySem.W.nsIn K mainGlobals "str" = some none)
    (z_abs : PySem.W.nsIn K mainGlobals "abs" = some none)
    (z_all : PySem.W.nsIn K mainGlobals "all" = some none)
    (z_any : PySem.W.nsIn K mainGlobals "any" = some none)
    (z_tuple : PySem.W.nsIn K mainGlobals "tuple" = some none)
    (z_list : PySem.W.nsIn K mainGlobals "list" = some none)
    (z_sorted : PySem.W.nsIn K mainGlobals "sorted" = some none)
    (z_isinstance : PySem.W.nsIn K mainGlobals "isinstance" = some none)
    (z_zip : PySem.W.nsIn K mainGlobals "zip" = some none)
    (z_enumerate : PySem.W.nsIn K mainGlobals "enumerate" = some none)
    (z_ord : PySem.W.nsIn K mainGlobals "ord" = some none)
    (z_set : PySem.W.nsIn K mainGlobals "set" = some none)
    (z_dict : PySem.W.nsIn K mainGlobals "dict" = some none)
    (z_bool : PySem.W.nsIn K mainGlobals "bool" = some none)
    (z_max : PySem.W.nsIn K mainGlobals "max" = some none)
    (z_min : PySem.W.nsIn K mainGlobals "min" = some none)
    (z_sum : PySem.W.nsIn K mainGlobals "sum" = some none)
    (z_chr : PySem.W.nsIn K mainGlobals "chr" = some none)
    (z_reversed : PySem.W.nsIn K mainGlobals "reversed" = some none)
    (g_HIGHEST : PySem.W.nsIn K mainGlobals "HIGHEST" = some (some (.int (1000000000000) t_HIGHEST)))
    (g_LONGEST : PySem.W.nsIn K mainGlobals "LONGEST" = some (some (.int (40) t_LONGEST)))
    (g_MOST : PySem.W.nsIn K mainGlobals "MOST" = some (some (.int (16) t_MOST)))
    (g_DEEP : PySem.W.nsIn K mainGlobals "DEEP" = some (some (.int (6) t_DEEP)))
    (g_NAME : PySem.W.nsIn K mainGlobals "NAME" = some (some (.int (8) t_NAME)))
    (g_SMALL : PySem.W.nsIn K mainGlobals "SMALL" = some (some (.str "abcdefghijklmnopqrstuvwxyz" t_SMALL)))
    (g_SIGNS : PySem.W.nsIn K mainGlobals "SIGNS" = some (some (.str "abcdefghijklmnopqrstuvwxyz0123456789" t_SIGNS)))
    (g_KINDS : PySem.W.nsIn K mainGlobals "KINDS" = some (some (.ref r_KINDS))) (h_KINDS : K.lookup r_KINDS = some ⟨.type "tuple", none, .seq #[.str "null" t_KINDS_0, .str "number" t_KINDS_1, .str "text" t_KINDS_2, .str "doc" t_KINDS_3, .str "list" t_KINDS_4, .str "truth" t_KINDS_5] n_KINDS, sl_KINDS⟩)
    (g_NAMES : PySem.W.nsIn K mainGlobals "NAMES" = some (some (.int (8) t_NAMES)))
    (g_RULES : PySem.W.nsIn K mainGlobals "RULES" = some (some (.int (12) t_RULES)))
    (g_ROWS : PySem.W.nsIn K mainGlobals "ROWS" = some (some (.int (10) t_ROWS))) :
    ∃ fd : FuncData, (∀ (s : Shared) (v : Value), BindsTo s fd ⟨[v], []⟩ [("script", v)]) ∧ ∀ base : Heap, K.In base → base.Ns mainGlobals mg → FnOk l.prog w K mg base CX0 (k + 1) fa fd ["script"] (prom K 1 (runB 1 27 (b_law (callF k)))) := by
  obtain ⟨fd, h1, h2⟩ := law_head (l := l) (w := w) (facts_mk X G a0 l0 c0 k0 a1 l1 c1 k1 a2 l2 c2 k2 a3 l3 c3 k3 a4 l4 c4 k4 a5 l5 c5 k5 a6 l6 c6 k6 a7 l7 c7 k7 a8 l8 c8 k8 a9 l9 c9 k9 a10 l10 c10 k10 a11 l11 c11 k11 a12 l12 c12 k12 a13 l13 c13 k13 a14 l14 c14 k14 a15 l15 c15 k15 a16 l16 c16 k16 a17 l17 c17 k17 a18 l18 c18 k18 a19 l19 c19 k19 a20 l20 c20 k20 a21 l21 c21 k21 a22 l22 c22 k22 a23 l23 c23 k23 a24 l24 c24 k24 a25 l25 c25 k25 a26 l26 c26 k26 a27 l27 c27 k27 a28 l28 c28 k28 a29 l29 c29 k29 a30 l30 c30 k30 a31 l31 c31 k31 a32 l32 c32 k32 a33 l33 c33 k33 a34 l34 c34 k34 a35 l35 c35 k35 a36 l36 c36 k36 a37 l37 c37 k37 a38 l38 c38 k38 a39 l39 c39 k39 a40 l40 c40 k40 a41 l41 c41 k41 a42 l42 c42 k42 a43 l43 c43 k43 a44 l44 c44 k44 a45 l45 c45 k45 a46 l46 c46 k46 a47 l47 c47 k47 a48 l48 c48 k48 a49 l49 c49 k49 a50 l50 c50 k50 a51 l51 c51 k51 a52 l52 c52 k52 z_len z_range z_int z_str z_abs z_all z_any z_tuple z_list z_sorted z_isinstance z_zip z_enumerate z_ord z_set z_dict z_bool z_max z_min z_sum z_chr z_reversed g_HIGHEST g_LONGEST g_MOST g_DEEP g_NAME g_SMALL g_SIGNS g_KINDS h_KINDS g_NAMES g_RULES g_ROWS) hfa k
  exact ⟨fd, h1, fun base _ _ => h2 base⟩
end K82
end

section
set_option Elab.async false
set_option linter.all false
set_option autoImplicit false
/-! M82: rules of names: what follows (plain mathematics, no program). -/
namespace RP
open PySem (Str)
abbrev Rule := List Str × List Str
def sub (A F : List Str) : Bool := A.all fun x => decide (x ∈ F)
theorem sub_iff {A F : List Str} : sub A F = true ↔ ∀ x ∈ A, x ∈ F := by
  unfold sub
  rw [List.all_eq_true]
  exact ⟨fun h x hx => of_decide_eq_true (h x hx), fun h x hx => decide_eq_true (h x hx)⟩
def newOf (A F : List Str) : List Str := A.filter fun x => !decide (x ∈ F)
theorem mem_newOf {A F : List Str} {x : Str} : x ∈ newOf A F ↔ x ∈ A ∧ x ∉ F := by
  unfold newOf
  rw [List.mem_filter, Bool.not_eq_true', decide_eq_false_iff_not]
theorem newOf_nil {A F : List Str} : newOf A F = [] ↔ sub A F = true := by
  rw [sub_iff]
  constructor
  · intro h x hx
    by_cases hF : x ∈ F
    · exact hF
    · have := mem_newOf.mpr ⟨hx, hF⟩
      rw [h] at this
      cases this
  · intro h
    apply List.eq_nil_iff_forall_not_mem.mpr
    intro x hx
    exact (mem_newOf.mp hx).2 (h x (mem_newOf.mp hx).1)
theorem newOf_empty {A F : List Str} : (newOf A F).isEmpty = sub A F := by
  rw [Bool.eq_iff_iff, List.isEmpty_iff, newOf_nil]
def step (F : List Str) (r : Rule) : List Str := if sub r.1 F = true then F ++ newOf r.2 F else F
def pass (rs : List Rule) (F : List Str) : List Str := rs.foldl step F
def passN (rs : List Rule) : Nat → List Str → List Str
  | 0, F => F
  | n + 1, F => passN rs n (pass rs F)
theorem passN_succ (rs : List Rule) : ∀ (n : Nat) (F : List Str), passN rs (n + 1) F = pass rs (passN rs n F)
  | 0, _ => rfl
  | n + 1, F => passN_succ rs n (pass rs F)
theorem passN_add (rs : List Rule) (m : Nat) : ∀ (n : Nat) (F : List Str), passN rs (n + m) F = passN rs m (passN rs n F)
  | 0, F => by rw [Nat.zero_add]; rfl
  | n + 1, F => by
    rw [Nat.add_right_comm]
    exact passN_add rs m n (pass rs F)
theorem passN_fix {rs : List Rule} {F : List Str} (h : pass rs F = F) : ∀ n, passN rs n F = F
  | 0 => rfl
  | n + 1 => by
    show passN rs n (pass rs F) = F
    rw [h]
    exact passN_fix h n
theorem step_pre (F : List Str) (r : Rule) : ∃ m, step F r = F ++ m := by
  unfold step
  split
  · exact ⟨_, rfl⟩
  · exact ⟨[], (List.append_nil F).symm⟩
theorem pass_pre : ∀ (rs : List Rule) (F : List Str), ∃ m, pass rs F = F ++ m
  | [], F => ⟨[], (List.append_nil F).symm⟩
  | r :: rs, F => by
    obtain ⟨m, h⟩ := step_pre F r
    obtain ⟨m2, h2⟩ := pass_pre rs (step F r)
    exact ⟨m ++ m2, by show pass rs (step F r) = _; rw [h2, h, List.append_assoc]⟩
theorem pass_len (rs : List Rule) (F : List Str) : F.length ≤ (pass rs F).length := by
  obtain ⟨m, h⟩ := pass_pre rs F
  rw [h, List.length_append]
  exact Nat.le_add_right _ _
theorem pass_same {rs : List Rule} {F : List Str} (h : (pass rs F).length ≤ F.length) : pass rs F = F := by
  obtain ⟨m, e⟩ := pass_pre rs F
  rw [e, List.length_append] at h
  have : m = [] := List.eq_nil_of_length_eq_zero (by omega)
  rw [e, this, List.append_nil]
/-- a row that holds just some of the names, each once -/
structure In (names F : List Str) : Prop where
  nd : F.Nodup
  sub : ∀ x ∈ F, x ∈ names
theorem nodup_len {names : List Str} : ∀ {F : List Str}, F.Nodup → (∀ x ∈ F, x ∈ names) → F.length ≤ names.length := by
  induction names with
  | nil =>
    intro F _ h
    cases F with
    | nil => exact Nat.le_refl _
    | cons x r => exact absurd (h x List.mem_cons_self) (by simp)
  | cons n ns ih =>
    intro F nd h
    have h1 : (F.erase n).Nodup := nd.erase n
    have h2 : ∀ x ∈ F.erase n, x ∈ ns := fun x hx => by
      have hx' := List.mem_of_mem_erase hx
      have hne : x ≠ n := fun e => by
        subst e
        exact (List.Nodup.not_mem_erase nd) hx
      exact (List.mem_cons.mp (h x hx')).resolve_left hne
    have h3 := ih h1 h2
    have h4 : F.length ≤ (F.erase n).length + 1 := by
      by_cases hm : n ∈ F
      · rw [List.length_erase_of_mem hm]; omega
      · rw [List.erase_of_not_mem hm]; omega
    rw [List.length_cons]
    omega
theorem In.len {names F : List Str} (h : In names F) : F.length ≤ names.length := nodup_len h.nd h.sub
/-- a rule of the names -/
structure RuleOk (names : List Str) (r : Rule) : Prop where
  l : ∀ x ∈ r.1, x ∈ names
  rnd : r.2.Nodup
  r : ∀ x ∈ r.2, x ∈ names
theorem In.step {names F : List Str} {r : Rule} (h : In names F) (hr : RuleOk names r) : In names (step F r) := by
  unfold RP.step
  split
  · refine ⟨?_, fun x hx => ?_⟩
    · rw [List.nodup_append]
      refine ⟨h.nd, hr.rnd.filter _, fun x hx y hy e => ?_⟩
      subst e
      exact (mem_newOf.mp hy).2 hx
    · rcases List.mem_append.mp hx with hx | hx
      · exact h.sub x hx
      · exact hr.r x (mem_newOf.mp hx).1
  · exact h
theorem In.pass {names : List Str} : ∀ {rs : List Rule} {F : List Str}, In names F → (∀ r ∈ rs, RuleOk names r) → In names (pass rs F)
  | [], _, h, _ => h
  | r :: rs, F, h, hr => In.pass (rs := rs) (h.step (hr r List.mem_cons_self)) fun q hq => hr q (List.mem_cons_of_mem _ hq)
theorem In.passN {names : List Str} {rs : List Rule} (hr : ∀ r ∈ rs, RuleOk names r) : ∀ (n : Nat) {F : List Str}, In names F → In names (passN rs n F)
  | 0, _, h => h
  | n + 1, _, h => In.passN hr n (h.pass hr)
/-- a row that the rules add nothing to -/
def Closed (rs : List Rule) (F : List Str) : Prop := ∀ r ∈ rs, (∀ x ∈ r.1, x ∈ F) → ∀ x ∈ r.2, x ∈ F
theorem pass_fix : ∀ {rs : List Rule} {F : List Str}, pass rs F = F → Closed rs F
  | [], F, _ => fun r hr => by cases hr
  | r :: rs, F, h => by
    have hs : step F r = F := by
      obtain ⟨m, e⟩ := step_pre F r
      obtain ⟨m2, e2⟩ := pass_pre rs (step F r)
      have h' : pass rs (step F r) = F := h
      rw [e2, e] at h'
      have hl := congrArg List.length h'
      rw [List.length_append, List.length_append] at hl
      have : m = [] := List.eq_nil_of_length_eq_zero (by omega)
      rw [e, this, List.append_nil]
    have ht : pass rs F = F := by
      have h' : pass rs (step F r) = F := h
      rwa [hs] at h'
    intro q hq hl x hx
    rcases List.mem_cons.mp hq with rfl | hq
    · unfold step at hs
      rw [if_pos (sub_iff.mpr hl)] at hs
      have hn : newOf q.2 F = [] := by
        have hlen := congrArg List.length hs
        rw [List.length_append] at hlen
        exact List.eq_nil_of_length_eq_zero (by omega)
      exact sub_iff.mp (newOf_nil.mp hn) x hx
    · exact pass_fix ht q hq hl x hx
theorem mem_pass {rs : List Rule} {F : List Str} {x : Str} (h : x ∈ F) : x ∈ pass rs F := by
  obtain ⟨m, e⟩ := pass_pre rs F
  rw [e]; exact List.mem_append_left _ h
theorem mem_passN {rs : List Rule} {x : Str} : ∀ {n : Nat} {F : List Str}, x ∈ F → x ∈ passN rs n F
  | 0, _, h => h
  | n + 1, _, h => mem_passN (n := n) (mem_pass h)
/-- what is closed and holds the beginning holds all -/
theorem pass_least {rs : List Rule} {G : List Str} : ∀ {F : List Str}, Closed rs G → (∀ x ∈ F, x ∈ G) → ∀ x ∈ pass rs F, x ∈ G := by
  induction rs with
  | nil => exact fun {F} _ h => h
  | cons r rs ih =>
    intro F hc h
    refine ih (F := step F r) (fun q hq => hc q (List.mem_cons_of_mem _ hq)) ?_
    intro x hx
    unfold step at hx
    split at hx
    · rename_i hs
      rcases List.mem_append.mp hx with hx | hx
      · exact h x hx
      · exact hc r List.mem_cons_self (fun y hy => h y (sub_iff.mp hs y hy)) x (mem_newOf.mp hx).1
    · exact h x hx
theorem passN_least {rs : List Rule} {G : List Str} (hc : Closed rs G) : ∀ {n : Nat} {F : List Str}, (∀ x ∈ F, x ∈ G) → ∀ x ∈ passN rs n F, x ∈ G
  | 0, _, h => h
  | n + 1, _, h => passN_least hc (n := n) (pass_least hc h)
/-- all that follows -/
def clos (rs : List Rule) (F : List Str) : List Str := passN rs 20 F
/-- a row of passes, each of which adds something, but the last -/
structure Run (rs : List Rule) (F0 F : List Str) (many : Int) : Prop where
  ex : ∃ k, F = passN rs k F0 ∧ ((k = 0 ∧ many = -1) ∨ (∃ j, k = j + 1 ∧ many = ((passN rs j F0).length : Nat) ∧ j ≤ (passN rs j F0).length))
theorem run_start (rs : List Rule) (F0 : List Str) : Run rs F0 F0 (-1) := ⟨0, rfl, .inl ⟨rfl, rfl⟩⟩
theorem run_next {rs : List Rule} {F0 F : List Str} {many : Int} (h : Run rs F0 F many) (hm : many < F.length) : Run rs F0 (pass rs F) (F.length : Nat) := by
  obtain ⟨k, e, h⟩ := h.ex
  refine ⟨k + 1, by rw [passN_succ, ← e], .inr ⟨k, rfl, by rw [e], ?_⟩⟩
  rcases h with ⟨rfl, _⟩ | ⟨j, rfl, e2, hj⟩
  · exact Nat.zero_le _
  · rw [e2, e] at hm
    omega
theorem run_end {rs : List Rule} {F0 F names : List Str} {many : Int} (h : Run rs F0 F many) (hm : ¬ many < F.length) (hin : In names F0) (hr : ∀ r ∈ rs, RuleOk names r) (hn : names.length ≤ 12) : clos rs F0 = F ∧ Closed rs F := by
  obtain ⟨k, e, h⟩ := h.ex
  rcases h with ⟨rfl, e1⟩ | ⟨j, rfl, e2, hj⟩
  · exfalso
    apply hm
    rw [e1]; omega
  · have e3 : F = pass rs (passN rs j F0) := by rw [e, passN_succ]
    have hs : pass rs (passN rs j F0) = passN rs j F0 := pass_same (by rw [← e3]; omega)
    have e4 : F = passN rs j F0 := e3.trans hs
    have hfix : pass rs F = F := by rw [e4]; exact hs
    have hj2 : j ≤ 12 := by
      have := (In.passN hr j hin).len
      omega
    refine ⟨?_, pass_fix hfix⟩
    unfold clos
    have : (20 : Nat) = j + (20 - j) := by omega
    rw [this, passN_add, ← e4, passN_fix hfix]
end RP
end

section
set_option Elab.async false
set_option linter.all false
set_option autoImplicit false
/-! M82b: proofs by rules (plain mathematics). -/
namespace RP
open PySem (Str)
def ruleAt (rs : List Rule) (i : Nat) : Rule := rs.getD i ([], [])
/-- what is known behind a row of rules -/
def runP (rs : List Rule) : List Str → List Nat → Option (List Str)
  | known, [] => some known
  | known, i :: is => if sub (ruleAt rs i).1 known = true then runP rs (known ++ (ruleAt rs i).2) is else none
def isProofB (rs : List Rule) (r : Rule) (is : List Nat) : Bool := match runP rs r.1 is with
  | some k => sub r.2 k
  | none => false
theorem runP_snoc {rs : List Rule} {i : Nat} : ∀ {is : List Nat} {known k : List Str}, runP rs known is = some k → sub (ruleAt rs i).1 k = true → runP rs known (is ++ [i]) = some (k ++ (ruleAt rs i).2)
  | [], known, k, h, hs => by
    cases h
    show (if sub (ruleAt rs i).1 known = true then runP rs (known ++ (ruleAt rs i).2) [] else none) = _
    rw [if_pos hs]; rfl
  | j :: is, known, k, h, hs => by
    show (if sub (ruleAt rs j).1 known = true then runP rs (known ++ (ruleAt rs j).2) (is ++ [i]) else none) = _
    have h' : (if sub (ruleAt rs j).1 known = true then runP rs (known ++ (ruleAt rs j).2) is else none) = some k := h
    by_cases hj : sub (ruleAt rs j).1 known = true
    · rw [if_pos hj] at h' ⊢
      exact runP_snoc h' hs
    · rw [if_neg hj] at h'; cases h'
/-- the rules that add something now -/
def goodL (rs : List Rule) (K : List Str) : List Nat := (List.range rs.length).filter fun i => sub (ruleAt rs i).1 K && !sub (ruleAt rs i).2 K
def seek (rs : List Rule) (goal : List Str) : Nat → List Str → List Nat → Option (List Nat)
  | 0, _, _ => none
  | n + 1, K, F => if sub goal K = true then some F else match goodL rs K with
    | [] => none
    | i :: _ => seek rs goal n (K ++ (ruleAt rs i).2) (F ++ [i])
theorem sub_congr {A K K' : List Str} (h : ∀ x, x ∈ K ↔ x ∈ K') : sub A K = sub A K' := by
  rw [Bool.eq_iff_iff, sub_iff, sub_iff]
  exact ⟨fun q x hx => (h x).mp (q x hx), fun q x hx => (h x).mpr (q x hx)⟩
theorem goodL_congr {rs : List Rule} {K K' : List Str} (h : ∀ x, x ∈ K ↔ x ∈ K') : goodL rs K = goodL rs K' := by
  unfold goodL
  congr 1
  funext i
  rw [sub_congr h, sub_congr h]
theorem mem_good {rs : List Rule} {K : List Str} {i : Nat} : i ∈ goodL rs K ↔ i < rs.length ∧ sub (ruleAt rs i).1 K = true ∧ sub (ruleAt rs i).2 K = false := by
  unfold goodL
  rw [List.mem_filter, List.mem_range, Bool.and_eq_true, Bool.not_eq_true']
theorem ruleAt_mem {rs : List Rule} {i : Nat} (h : i < rs.length) : ruleAt rs i ∈ rs := by
  unfold ruleAt
  rw [List.getD_eq_getElem?_getD, List.getElem?_eq_getElem h]
  exact List.getElem_mem h
theorem closed_of_good {rs : List Rule} {K : List Str} (h : goodL rs K = []) : Closed rs K := by
  intro r hr hl x hx
  obtain ⟨i, hi, e⟩ := List.getElem_of_mem hr
  have er : ruleAt rs i = r := by
    unfold ruleAt
    rw [List.getD_eq_getElem?_getD, List.getElem?_eq_getElem hi]
    exact e
  by_cases hs : sub r.2 K = true
  · exact sub_iff.mp hs x hx
  · rw [Bool.not_eq_true] at hs
    have : i ∈ goodL rs K := mem_good.mpr ⟨hi, by rw [er]; exact sub_iff.mpr hl, by rw [er]; exact hs⟩
    rw [h] at this
    cases this
theorem filter_lt {p q : Nat → Bool} : ∀ {l : List Nat}, (∀ i ∈ l, p i = true → q i = true) → (∃ i ∈ l, q i = true ∧ p i = false) → (l.filter p).length < (l.filter q).length
  | [], _, h => by obtain ⟨i, hi, _⟩ := h; cases hi
  | a :: l, h1, h2 => by
    have le : ∀ {l : List Nat}, (∀ i ∈ l, p i = true → q i = true) → (l.filter p).length ≤ (l.filter q).length := by
      intro l
      induction l with
      | nil => intro _; exact Nat.le_refl _
      | cons b l ih =>
        intro h
        have := ih fun i hi => h i (List.mem_cons_of_mem _ hi)
        rw [List.filter_cons, List.filter_cons]
        by_cases hp : p b = true
        · rw [if_pos hp, if_pos (h b List.mem_cons_self hp), List.length_cons, List.length_cons]; omega
        · rw [if_neg hp]
          split
          · rw [List.length_cons]; omega
          · exact this
    have hl := fun i hi => h1 i (List.mem_cons_of_mem a hi)
    rw [List.filter_cons, List.filter_cons]
    obtain ⟨i, hi, hq, hp⟩ := h2
    rcases List.mem_cons.mp hi with rfl | hi
    · rw [if_neg (by rw [hp]; exact Bool.false_ne_true), if_pos hq, List.length_cons]
      have := le hl; omega
    · have ih := filter_lt hl ⟨i, hi, hq, hp⟩
      by_cases hpa : p a = true
      · rw [if_pos hpa, if_pos (h1 a List.mem_cons_self hpa), List.length_cons, List.length_cons]; omega
      · rw [if_neg hpa]
        split
        · rw [List.length_cons]; omega
        · exact ih
def unused (rs : List Rule) (K : List Str) : Nat := ((List.range rs.length).filter fun i => !sub (ruleAt rs i).2 K).length
theorem sub_mono {A K K' : List Str} (h : ∀ x ∈ K, x ∈ K') (hs : sub A K = true) : sub A K' = true := sub_iff.mpr fun x hx => h x (sub_iff.mp hs x hx)
theorem seek_some {rs : List Rule} {goal F0 : List Str} (hg : ∀ x ∈ goal, x ∈ clos rs F0) : ∀ (n : Nat) (K : List Str) (F : List Nat), (∀ x ∈ F0, x ∈ K) → unused rs K < n → ∃ G, seek rs goal n K F = some G
  | 0, _, _, _, h => absurd h (Nat.not_lt_zero _)
  | n + 1, K, F, h0, h => by
    by_cases hs : sub goal K = true
    · exact ⟨F, by show (if sub goal K = true then some F else _) = _; rw [if_pos hs]⟩
    · cases e : goodL rs K with
      | nil =>
        exact absurd (sub_iff.mpr fun x hx => passN_least (closed_of_good e) h0 x (hg x hx)) hs
      | cons i r =>
        have hi : i ∈ goodL rs K := by rw [e]; exact List.mem_cons_self
        obtain ⟨h1, h2, h3⟩ := mem_good.mp hi
        have hlt : unused rs (K ++ (ruleAt rs i).2) < unused rs K := filter_lt (fun j _ hj => by
          rw [Bool.not_eq_true'] at hj ⊢
          cases hq : sub (ruleAt rs j).2 K with
          | false => rfl
          | true =>
            rw [sub_mono (fun x hx => List.mem_append_left _ hx) hq] at hj
            cases hj) ⟨i, List.mem_range.mpr h1, by rw [h3]; rfl, by rw [Bool.not_eq_false', sub_iff]; exact fun x hx => List.mem_append_right _ hx⟩
        obtain ⟨G, hG⟩ := seek_some hg n (K ++ (ruleAt rs i).2) (F ++ [i]) (fun x hx => List.mem_append_left _ (h0 x hx)) (by omega)
        refine ⟨G, ?_⟩
        show (if sub goal K = true then some F else match goodL rs K with
          | [] => none
          | i :: _ => seek rs goal n (K ++ (ruleAt rs i).2) (F ++ [i])) = _
        rw [if_neg hs, e]
        exact hG
theorem unused_le (rs : List Rule) (K : List Str) : unused rs K ≤ rs.length := by
  unfold unused
  refine Nat.le_trans (List.length_filter_le _ _) ?_
  rw [List.length_range]
  exact Nat.le_refl _
theorem seek_none {rs : List Rule} {goal F0 : List Str} (hc : Closed rs (clos rs F0)) (hg : sub goal (clos rs F0) = false) : ∀ (n : Nat) (K : List Str) (F : List Nat), (∀ x ∈ K, x ∈ clos rs F0) → seek rs goal n K F = none
  | 0, _, _, _ => rfl
  | n + 1, K, F, hK => by
    have hs : ¬ sub goal K = true := fun h => by
      rw [sub_mono hK h] at hg
      cases hg
    show (if sub goal K = true then some F else match goodL rs K with
          | [] => none
          | i :: _ => seek rs goal n (K ++ (ruleAt rs i).2) (F ++ [i])) = none
    rw [if_neg hs]
    cases e : goodL rs K with
    | nil => rfl
    | cons i r =>
      have hi : i ∈ goodL rs K := by rw [e]; exact List.mem_cons_self
      obtain ⟨h1, h2, h3⟩ := mem_good.mp hi
      refine seek_none hc hg n _ _ fun x hx => ?_
      rcases List.mem_append.mp hx with hx | hx
      · exact hK x hx
      · exact hc _ (ruleAt_mem h1) (fun y hy => hK y (sub_iff.mp h2 y hy)) x hx
/-- what is found is a proof -/
theorem seek_ok {rs : List Rule} {goal F0 : List Str} : ∀ {n : Nat} {K : List Str} {F G : List Nat}, runP rs F0 F = some K → (∀ i ∈ F, i < rs.length) → seek rs goal n K F = some G → isProofB rs (F0, goal) G = true ∧ ∀ i ∈ G, i < rs.length
  | 0, _, _, _, _, _, h => by cases h
  | n + 1, K, F, G, hr, hF, h => by
    have h' : (if sub goal K = true then some F else match goodL rs K with
          | [] => none
          | i :: _ => seek rs goal n (K ++ (ruleAt rs i).2) (F ++ [i])) = some G := h
    by_cases hs : sub goal K = true
    · rw [if_pos hs] at h'
      cases h'
      refine ⟨?_, hF⟩
      unfold isProofB
      rw [hr]
      exact hs
    · rw [if_neg hs] at h'
      cases e : goodL rs K with
      | nil => rw [e] at h'; cases h'
      | cons i r =>
        rw [e] at h'
        have hi : i ∈ goodL rs K := by rw [e]; exact List.mem_cons_self
        obtain ⟨h1, h2, h3⟩ := mem_good.mp hi
        refine seek_ok (runP_snoc hr h2) (fun j hj => ?_) h'
        rcases List.mem_append.mp hj with hj | hj
        · exact hF j hj
        · rw [List.mem_singleton.mp hj]; exact h1
/-- the law's own way over whole numbers -/
def okAt (rs : List Rule) (i : Int) : Bool := decide (0 ≤ i) && decide (i < rs.length)
def lrun (rs : List Rule) : List Str → List Int → Option (List Str)
  | known, [] => some known
  | known, i :: is => if okAt rs i = true ∧ sub (ruleAt rs i.toNat).1 known = true then lrun rs (known ++ (ruleAt rs i.toNat).2) is else none
def lproofB (rs : List Rule) (r : Rule) (is : List Int) : Bool := match lrun rs r.1 is with
  | some k => sub r.2 k
  | none => false
theorem lrun_eq {rs : List Rule} : ∀ {is : List Int} {known : List Str}, lrun rs known is = if is.all (okAt rs) = true then runP rs known (is.map Int.toNat) else none
  | [], _ => rfl
  | i :: is, known => by
    show (if okAt rs i = true ∧ sub (ruleAt rs i.toNat).1 known = true then lrun rs (known ++ (ruleAt rs i.toNat).2) is else none) = _
    rw [lrun_eq, List.all_cons, List.map_cons]
    show _ = if (okAt rs i && is.all (okAt rs)) = true then (if sub (ruleAt rs i.toNat).1 known = true then runP rs (known ++ (ruleAt rs i.toNat).2) (is.map Int.toNat) else none) else none
    cases okAt rs i <;> cases is.all (okAt rs) <;> cases sub (ruleAt rs i.toNat).1 known <;> simp
theorem lproof_eq {rs : List Rule} {r : Rule} {is : List Int} : lproofB rs r is = (is.all (okAt rs) && isProofB rs r (is.map Int.toNat)) := by
  unfold lproofB isProofB
  rw [lrun_eq]
  cases is.all (okAt rs) <;> simp
end RP
end

section
set_option Elab.async false
set_option linter.all false
set_option maxRecDepth 100000
set_option autoImplicit false
set_option maxHeartbeats 1000000
namespace K82
open PySem (Str)
open RP
theorem call_at (n i : Nat) (ds : List D) : callF (n + 1) i ds = bodies (callF n) i ds := rfl
/-! ### small functions -/
@[simp] theorem s_is_whole (n : Nat) (i lo hi : Int) : callF (n + 1) 0 [.int i, .int lo, .int hi] = pure (.bl (decide (lo ≤ i) && decide (i ≤ hi))) := by
  simp [call_at, bodies, b_is_whole]
def whole (d : D) (lo hi : Int) : Bool := match d with
  | .int i => decide (lo ≤ i) && decide (i ≤ hi)
  | _ => false
theorem s_is_wholeD (n : Nat) (d : D) (lo hi : Int) (h : D.plain d = true) : callF (n + 1) 0 [d, .int lo, .int hi] = pure (.bl (whole d lo hi)) := by
  cases d <;> first | (simp [D.plain] at h; done) | simp [call_at, bodies, b_is_whole, whole]
def tupleOf (d : D) (lo hi : Int) : Bool := match d with
  | .tup xs => decide (lo ≤ xs.length) && decide (xs.length ≤ hi)
  | _ => false
theorem s_is_tuple_of (n : Nat) (d : D) (lo hi : Int) (h : D.plain d = true) : callF (n + 1) 1 [d, .int lo, .int hi] = pure (.bl (tupleOf d lo hi)) := by
  cases d <;> first | (simp [D.plain] at h; done) | simp [call_at, bodies, b_is_tuple_of, tupleOf]
def SMALL : List Nat := ("abcdefghijklmnopqrstuvwxyz" : Str).cps.toList
def SIGNS : List Nat := ("abcdefghijklmnopqrstuvwxyz0123456789" : Str).cps.toList
def isNameS (s : Str) : Bool := (decide (1 ≤ s.length) && decide (s.length ≤ 8)) && (match s.cps.toList with
  | c :: _ => decide (c ∈ SMALL)
  | [] => false) && s.cps.toList.all fun c => decide (c ∈ SIGNS)
def isNameD : D → Bool
  | .str s => isNameS s
  | _ => false
theorem s_is_name_str (n : Nat) (s : Str) : callF (n + 1) 2 [.str s] = pure (.bl (isNameS s)) := by
  have hl : s.length = s.cps.toList.length := by rw [Array.length_toList]; rfl
  unfold isNameS
  by_cases h : 1 ≤ s.length ∧ s.length ≤ 8
  · cases e : s.cps.toList with
    | nil => rw [hl, e] at h; simp at h
    | cons c cs =>
      have hc : ¬((s.length : Int) < 1 ∨ 8 < (s.length : Int)) := by omega
      by_cases hm : c ∈ SMALL
      · have hm' : c ∈ ("abcdefghijklmnopqrstuvwxyz" : Str).cps.toList := hm
        have ha := all_compM (g := gName 1) (e := eOp2 inD (eOpd 1) (eLit (D.str "abcdefghijklmnopqrstuvwxyz0123456789"))) (ρ := [Sl.va (D.str s), Sl.no]) (fun c => D.str ⟨#[c]⟩) (fun c => decide (c ∈ SIGNS)) (xs := c :: cs) fun x _ => ⟨_, rfl, rfl⟩
        simp [call_at, bodies, b_is_name, h.1, h.2, e, hc, hm']
        rw [List.map_cons] at ha
        rw [ha]
        simp [hm]
      · have hm' : ¬ c ∈ ("abcdefghijklmnopqrstuvwxyz" : Str).cps.toList := hm
        simp [call_at, bodies, b_is_name, h.1, h.2, e, hc, hm', hm]
  · have h2 : (decide ((1:Int) ≤ (s.length : Int)) && decide ((s.length : Int) ≤ 8)) = false := by
      rw [Bool.and_eq_false_iff, decide_eq_false_iff_not, decide_eq_false_iff_not]; omega
    have h3 : (decide (1 ≤ s.length) && decide (s.length ≤ 8)) = false := by
      rw [Bool.and_eq_false_iff, decide_eq_false_iff_not, decide_eq_false_iff_not]; omega
    simp [call_at, bodies, b_is_name, h2, h3]
theorem s_is_name (n : Nat) (d : D) (h : d.plain = true) : callF (n + 1) 2 [d] = pure (.bl (isNameD d)) := by
  cases d <;> first | (simp [D.plain] at h; done) | exact s_is_name_str n _ | simp [call_at, bodies, b_is_name, isNameD]
/-! ### rows of names -/
/-- each text is below the next -/
def chainS : List Str → Bool
  | x :: y :: r => decide (x.cps.toList < y.cps.toList) && chainS (y :: r)
  | _ => true
def strsOf : List D → List Str
  | .str s :: r => s :: strsOf r
  | _ => []
def okNames (ss : List Str) (least : Nat) : Bool := (decide (least ≤ ss.length) && decide (ss.length ≤ 8)) && (ss.all isNameS && chainS ss)
def fitsNames (d : D) (least : Nat) : Bool := match d with
  | .tup ds => (decide (least ≤ ds.length) && decide (ds.length ≤ 8)) && (ds.all isNameD && chainS (strsOf ds))
  | _ => false
theorem all_names : ∀ {ds : List D}, ds.all isNameD = true → ds = (strsOf ds).map D.str
  | [], _ => rfl
  | d :: ds, h => by
    rw [List.all_cons, Bool.and_eq_true] at h
    cases d with
    | str s => show _ = D.str s :: (strsOf ds).map D.str; rw [← all_names h.2]
    | _ => cases h.1
theorem zip_chain : ∀ ss : List Str, ((ss.zip (ss.drop 1)).all fun p => decide (p.1.cps.toList < p.2.cps.toList)) = chainS ss
  | [] => rfl
  | [_] => rfl
  | x :: y :: r => by
    have := zip_chain (y :: r)
    rw [List.drop_succ_cons, List.drop_zero] at this ⊢
    rw [List.zip_cons_cons, List.all_cons, this]
    rfl
theorem s_fits_names (n : Nat) (d : D) (least : Nat) (h : d.plain = true) (hd : ∀ ds, d = .tup ds → ∀ x ∈ ds, x.plain = true) : callF (n + 2) 14 [d, .int least] = pure (.bl (fitsNames d least)) := by
  have h1 : callF (n + 1) 1 [d, .int least, .int 8] = pure (.bl (tupleOf d least 8)) := s_is_tuple_of n d least 8 h
  rw [call_at]
  cases d with
  | tup ds =>
    have hq := hd ds rfl
    have ha := all_compL (g := gName 2) (e := eCall (callF (n + 1) 2) (aCons (eVar 2) aNil)) (ρ := [Sl.va (D.tup ds), Sl.va (.int least), Sl.no, Sl.no]) isNameD (xs := ds) fun x hx => ⟨_, rfl, s_is_name n x (hq x hx)⟩
    by_cases hl : least ≤ ds.length ∧ ds.length ≤ 8
    · have ht : tupleOf (.tup ds) least 8 = true := by simp [tupleOf]; omega
      by_cases hn : ds.all isNameD = true
      · rw [hn] at ha
        have hs := all_names hn
        have hz := all_compM (g := gTup [gName 2, gName 3]) (e := eOp2 ltD (eOpd 2) (eOpd 3)) (ρ := [Sl.va (D.tup ds), Sl.va (.int least), Sl.no, Sl.no]) (fun (p : Str × Str) => D.tup [.str p.1, .str p.2])
          (fun p => decide (p.1.cps.toList < p.2.cps.toList)) (xs := (strsOf ds).zip ((strsOf ds).drop 1)) fun x _ => ⟨_, rfl, rfl⟩
        rw [← zipL_map, zip_chain, List.map_drop, ← hs] at hz
        simp [bodies, b_fits_names, h1, ht, ha, cut_tail]
        simp at hz
        rw [hz]
        simp [fitsNames, hn, hl.1, hl.2]
      · rw [Bool.not_eq_true] at hn
        rw [hn] at ha
        simp [bodies, b_fits_names, h1, ht, ha, fitsNames, hn]
    · have ht : tupleOf (.tup ds) least 8 = false := by
        simp [tupleOf]; omega
      have ht2 : (decide (least ≤ ds.length) && decide (ds.length ≤ 8)) = false := by simp; omega
      simp [bodies, b_fits_names, h1, ht, fitsNames, ht2]
  | _ => simp [bodies, b_fits_names, h1, tupleOf, fitsNames]
theorem fits_ok {ss : List Str} {least : Nat} (h : okNames ss least = true) : fitsNames (.tup (ss.map D.str)) least = true := by
  have e : strsOf (ss.map D.str) = ss := by
    clear h
    induction ss with
    | nil => rfl
    | cons x r ih => show x :: strsOf (r.map D.str) = _; rw [ih]
  have e2 : (ss.map D.str).all isNameD = ss.all isNameS := by rw [List.all_map]; rfl
  unfold okNames at h
  unfold fitsNames
  simp only [List.length_map, e, e2]
  exact h
/-- a tuple of texts -/
abbrev T (ss : List Str) : D := .tup (ss.map D.str)
abbrev L (ss : List Str) : D := .lst (ss.map D.str)
theorem plain_strs {ss : List Str} : ∀ ds, T ss = .tup ds → ∀ x ∈ ds, x.plain = true := fun ds e x hx => by
  cases e
  obtain ⟨y, _, rfl⟩ := List.mem_map.mp hx
  rfl
theorem s_fits_some (n : Nat) {names part : List Str} {least : Nat} (h : okNames part least = true) (hs : ∀ x ∈ part, x ∈ names) : callF (n + 3) 15 [T names, T part, .int least] = pure (.bl true) := by
  have h1 : callF (n + 2) 14 [T part, .int least] = pure (.bl true) := by rw [s_fits_names n (T part) least rfl plain_strs, fits_ok h]
  have ha := all_compM (g := gName 3) (e := eOp2 inD (eOpd 3) (eOpd 0)) (ρ := [Sl.va (T names), Sl.va (T part), Sl.va (.int least), Sl.no]) D.str (fun x => decide (x ∈ names)) (xs := part) fun x _ => ⟨_, rfl, by simp⟩
  have hb : (part.all fun x => decide (x ∈ names)) = true := List.all_eq_true.mpr fun x hx => decide_eq_true (hs x hx)
  rw [hb] at ha
  rw [call_at]
  simp [bodies, b_fits_some, h1, ha]
abbrev R1 (r : Rule) : D := .tup [T r.1, T r.2]
abbrev R (rs : List Rule) : D := .tup (rs.map R1)
def okRule (names : List Str) (r : Rule) : Prop := okNames r.1 0 = true ∧ (∀ x ∈ r.1, x ∈ names) ∧ okNames r.2 1 = true ∧ ∀ x ∈ r.2, x ∈ names
theorem s_fits_rule (n : Nat) {names : List Str} {r : Rule} (h : okRule names r) : callF (n + 4) 16 [T names, R1 r] = pure (.bl true) := by
  obtain ⟨h1, h2, h3, h4⟩ := h
  have k1 : callF (n + 3) 1 [R1 r, .int 2, .int 2] = pure (.bl true) := by rw [s_is_tuple_of (n + 2) (R1 r) 2 2 rfl]; rfl
  have k2 : callF (n + 3) 15 [T names, T r.1, .int 0] = pure (.bl true) := s_fits_some n (least := 0) h1 h2
  have k3 : callF (n + 3) 15 [T names, T r.2, .int 1] = pure (.bl true) := s_fits_some n (least := 1) h3 h4
  rw [call_at]
  simp [bodies, b_fits_rule, k1, k2, k3]
theorem s_fits_rules (n : Nat) {names : List Str} {rs : List Rule} (hl : rs.length ≤ 12) (h : ∀ r ∈ rs, okRule names r) : callF (n + 5) 17 [T names, R rs] = pure (.bl true) := by
  have k1 : callF (n + 4) 1 [R rs, .int 0, .int 12] = pure (.bl true) := by
    rw [s_is_tuple_of (n + 3) (R rs) 0 12 rfl]
    have : (rs.length : Int) ≤ 12 := by omega
    simp [tupleOf, this]
  have ha := all_compM (g := gName 2) (e := eCall (callF (n + 4) 16) (aCons (eVar 0) (aCons (eVar 2) aNil))) (ρ := [Sl.va (T names), Sl.va (R rs), Sl.no]) R1 (fun _ => true) (xs := rs) fun r hr => ⟨_, rfl, by
    have := s_fits_rule n (h r hr)
    simp [this]⟩
  have hb : (rs.all fun _ => true) = true := List.all_eq_true.mpr fun _ _ => rfl
  rw [hb] at ha
  rw [call_at]
  simp [bodies, b_fits_rules, k1, ha]
theorem s_need_names (n : Nat) {names : List Str} (h : okNames names 1 = true) : callF (n + 3) 19 [T names] = pure .non := by
  have h1 : callF (n + 2) 14 [T names, .int 1] = pure (.bl true) := by
    have := s_fits_names n (T names) 1 rfl plain_strs
    rw [fits_ok h] at this
    exact this
  rw [call_at]
  simp [bodies, b_need_names, h1]
structure World (names : List Str) (rs : List Rule) : Prop where
  nm : okNames names 1 = true
  rl : ∀ r ∈ rs, okRule names r
  len : rs.length ≤ 12
theorem s_need_rules (n : Nat) {names : List Str} {rs : List Rule} (w : World names rs) : callF (n + 6) 20 [T names, R rs] = pure .non := by
  have h1 : callF (n + 5) 19 [T names] = pure .non := s_need_names (n + 2) w.nm
  have h2 : callF (n + 5) 17 [T names, R rs] = pure (.bl true) := s_fits_rules n w.len w.rl
  rw [call_at]
  simp [bodies, b_need_rules, h1, h2]
theorem s_need_rule (n : Nat) {names : List Str} {rs : List Rule} {r : Rule} (w : World names rs) (hr : okRule names r) : callF (n + 7) 21 [T names, R rs, R1 r] = pure .non := by
  have h1 : callF (n + 6) 20 [T names, R rs] = pure .non := s_need_rules n w
  have h2 : callF (n + 6) 16 [T names, R1 r] = pure (.bl true) := s_fits_rule (n + 2) hr
  rw [call_at]
  simp [bodies, b_need_rule, h1, h2]
/-! ### comprehensions over names -/
theorem opd_of {ρ : Env} {i : Nat} {d : D} (h : ρ[i]? = some (.va d)) : eOpd i ρ = pure d := by unfold eOpd; rw [h]
theorem opd_own {ρ : Env} {i : Nat} {xs : List D} (h : ρ[i]? = some (.own xs)) : eOpd i ρ = pure (.lst xs) := by unfold eOpd; rw [h]
theorem opd_set {ρ : Env} {i k : Nat} {s : Sl} (h : i ≠ k) : eOpd i (ρ.set k s) = eOpd i ρ := by unfold eOpd; rw [List.getElem?_set_ne h.symm]
theorem opd_self {ρ : Env} {k : Nat} {d : D} (h : k < ρ.length) : eOpd k (ρ.set k (.va d)) = pure d := opd_of (List.getElem?_set_self h)
theorem var_self {ρ : Env} {k : Nat} {d : D} (h : k < ρ.length) : eVar k (ρ.set k (.va d)) = pure d := by unfold eVar; rw [List.getElem?_set_self h]
theorem all_in (k j : Nat) {ρ : Env} {A F : List Str} (hF : eOpd j ρ = pure (L F)) (hk : k < ρ.length) (hj : j ≠ k) :
    (compL (gName k) tYes (eOp2 inD (eOpd k) (eOpd j)) ρ (A.map D.str) >>= fun ys => allBl ys >>= fun bs => (pure (.bl (bs.all id)) : M D)) = pure (.bl (sub A F)) :=
  all_compM D.str (fun x => decide (x ∈ F)) fun x _ => ⟨_, rfl, by rw [eOp2_ev, opd_self hk, opd_set hj, hF]; exact inD_strL x F⟩
theorem not_in (k j : Nat) {ρ : Env} {F : List Str} {x : Str} (hF : eOpd j ρ = pure (L F)) (hk : k < ρ.length) (hj : j ≠ k) : tVal (eOp2 notInD (eOpd k) (eOpd j)) (ρ.set k (.va (.str x))) = pure (!decide (x ∈ F)) := by
  rw [tVal_ev, eOp2_ev, opd_self hk, opd_set hj, hF, M.pureb', M.pureb', notInD_strL]; rfl
theorem new_of (k j : Nat) {ρ : Env} {A F : List Str} (hF : eOpd j ρ = pure (L F)) (hk : k < ρ.length) (hj : j ≠ k) :
    compL (gName k) (tVal (eOp2 notInD (eOpd k) (eOpd j))) (eVar k) ρ (A.map D.str) = pure ((newOf A F).map D.str) :=
  compL_valM D.str (fun x => !decide (x ∈ F)) D.str fun x _ => ⟨_, rfl, not_in k j hF hk hj, fun _ => var_self hk⟩
theorem new_of1 (k j : Nat) {ρ : Env} {A F : List Str} (hF : eOpd j ρ = pure (L F)) (hk : k < ρ.length) (hj : j ≠ k) :
    compL (gName k) (tVal (eOp2 notInD (eOpd k) (eOpd j))) (eLit (.int 1)) ρ (A.map D.str) = pure ((newOf A F).map fun _ => .int 1) :=
  compL_valM D.str (fun x => !decide (x ∈ F)) (fun _ => .int 1) fun x _ => ⟨_, rfl, not_in k j hF hk hj, fun _ => rfl⟩
/-! ### what follows -/
theorem small {a b : Nat} (ha : a ≤ 100) (hb : b ≤ 100) : a + b ≤ LIM := by unfold LIM; omega
abbrev Es (rs : List Rule) (some F : List Str) (many : Int) (s4 s5 s6 : Sl) : Env := [.va (R rs), .va (T some), .own (F.map D.str), .va (.int many), s4, s5, s6]
theorem turn_settled {names some F : List Str} {rs : List Rule} {r : Rule} {many : Int} {s4 s5 s6 : Sl} (hin : In names F) (hr : RuleOk names r) (hn : names.length ≤ 12) :
    (gTup [gName 4, gName 5] (R1 r) (Es rs some F many s4 s5 s6) >>= sIf (tVal (eCall allD (aCons (eLst (cComp [6] (iAny (eOpd 4)) (gName 6) (tYes) (eOp2 inD (eOpd 6) (eOpd 2)))) aNil))) (sExt 2 (eLst (cComp [6] (iAny (eOpd 5)) (gName 6) (tVal (eOp2 notInD (eOpd 6) (eOpd 2))) (eVar 6)))) (sNil))
      = pure (.nx (Es rs some (step F r) many (.va (T r.1)) (.va (T r.2)) s6)) := by
  have ha := all_in 6 2 (ρ := [.va (R rs), .va (T some), .own (F.map D.str), .va (.int many), .va (T r.1), .va (T r.2), .no]) (A := r.1) (F := F) rfl (by simp) (by decide)
  have hb := new_of 6 2 (ρ := [.va (R rs), .va (T some), .own (F.map D.str), .va (.int many), .va (T r.1), .va (T r.2), .no]) (A := r.2) (F := F) rfl (by simp) (by decide)
  have hl : F.length + (newOf r.2 F).length ≤ LIM := by
    have h1 := hin.len
    have h2 : (newOf r.2 F).length ≤ names.length := nodup_len (hr.rnd.filter _) fun x hx => hr.r x (mem_newOf.mp hx).1
    exact small (by omega) (by omega)
  unfold step
  by_cases h : sub r.1 F = true
  · simp [ha, hb, h, hl]
    rw [← List.map_append]
  · simp [ha, h]
theorem s_settled_by (n : Nat) {names some : List Str} {rs : List Rule} (hin : In names some) (hr : ∀ r ∈ rs, RuleOk names r) (hn : names.length ≤ 12) : callF (n + 1) 23 [R rs, T some] = pure (L (sortS (clos rs some))) := by
  rw [call_at]
  simp [bodies, b_settled_by]
  apply Ev.eq
  refine Ev.bind (P := fun f => ∃ many s4 s5 s6, f = .nx (Es rs some (clos rs some) many s4 s5 s6)) (whileL_ev (fun m ρ => ∃ F many s4 s5 s6, ρ = Es rs some F many s4 s5 s6 ∧ In names F ∧ Run rs some F many ∧ m = 2 * (names.length - F.length) + (if many < F.length then 1 else 0)) ?_ FUEL _ _ ?_ ⟨some, -1, .no, .no, .no, rfl, hin, run_start rs some, rfl⟩) ?_
  · rintro m ρ ⟨F, many, s4, s5, s6, rfl, hF, hrun, rfl⟩
    have ht : tVal (eOp2 ltD (eOpd 3) (eCall lenD (aCons (eOpd 2) aNil))) (Es rs some F many s4 s5 s6) = pure (decide (many < F.length)) := by simp
    by_cases hm : many < F.length
    · rw [decide_eq_true hm] at ht
      refine .inl ⟨ht, ?_⟩
      generalize hP : TurnP _ _ = P
      simp
      subst hP
      refine Ev.mono (forL_ev (Q := fun f => ∃ s4 s5 s6, f = .nx (Es rs some (pass rs F) F.length s4 s5 s6)) (fun xs ρ => ∃ (rs' : List Rule) (F' : List Str) (s4 s5 s6 : Sl), xs = rs'.map R1 ∧ ρ = Es rs some F' F.length s4 s5 s6 ∧ In names F' ∧ (∀ r ∈ rs', RuleOk names r) ∧ pass rs' F' = pass rs F) ?_ ?_ _ _ ⟨rs, F, s4, s5, s6, rfl, rfl, hF, hr, rfl⟩) ?_
      · rintro x xs ρ ⟨rs', F', s4, s5, s6, e1, rfl, h1, h2, h3⟩
        cases rs' with
        | nil => cases e1
        | cons r rs' =>
          rw [List.map_cons, List.cons.injEq] at e1
          obtain ⟨rfl, rfl⟩ := e1
          exact Ev.of (turn_settled h1 (h2 r List.mem_cons_self) hn) ⟨rs', step F' r, _, _, _, rfl, rfl, h1.step (h2 r List.mem_cons_self), fun q hq => h2 q (List.mem_cons_of_mem _ hq), h3⟩
      · rintro ρ ⟨rs', F', s4, s5, s6, e1, rfl, h1, h2, h3⟩
        cases rs' with
        | cons r rs' => cases e1
        | nil => exact ⟨_, _, _, by rw [← h3]; rfl⟩
      · rintro f ⟨s4', s5', s6', rfl⟩
        refine ⟨_, ?_, pass rs F, F.length, s4', s5', s6', rfl, hF.pass hr, run_next hrun hm, rfl⟩
        have h1 := pass_len rs F
        have h2 := (hF.pass hr).len
        rw [if_pos hm]
        split <;> omega
    · rw [decide_eq_false hm] at ht
      refine .inr ⟨ht, many, s4, s5, s6, ?_⟩
      rw [(run_end hrun hm hin hr hn).1]
  · unfold FUEL
    split <;> omega
  · rintro f ⟨many, s4, s5, s6, rfl⟩
    refine Ev.of (a := L (sortS (clos rs some))) ?_ rfl
    have hl := (In.passN hr 20 hin).len
    have hs := sortD_strs (ss := clos rs some) (by unfold clos; omega)
    simp [hs]
theorem mem_insS {x y : Str} : ∀ {ss : List Str}, x ∈ insS y ss ↔ x = y ∨ x ∈ ss
  | [] => by unfold insS; simp
  | z :: r => by
    unfold insS
    split
    · rw [List.mem_cons]
    · rw [List.mem_cons, mem_insS, List.mem_cons]
      constructor
      · rintro (h | h | h)
        · exact .inr (.inl h)
        · exact .inl h
        · exact .inr (.inr h)
      · rintro (h | h | h)
        · exact .inr (.inl h)
        · exact .inl h
        · exact .inr (.inr h)
theorem mem_sortS {x : Str} : ∀ {ss : List Str}, x ∈ sortS ss ↔ x ∈ ss
  | [] => Iff.rfl
  | y :: r => by
    show x ∈ insS y (sortS r) ↔ _
    rw [mem_insS, mem_sortS, List.mem_cons]
theorem sub_sort {A F : List Str} : sub A (sortS F) = sub A F := by
  rw [Bool.eq_iff_iff, sub_iff, sub_iff]
  exact ⟨fun h x hx => mem_sortS.mp (h x hx), fun h x hx => mem_sortS.mpr (h x hx)⟩
theorem s_is_settled (n : Nat) {names : List Str} {rs : List Rule} {r : Rule} (hin : In names r.1) (hr : ∀ r ∈ rs, RuleOk names r) (hn : names.length ≤ 12) : callF (n + 2) 24 [R rs, R1 r] = pure (.bl (sub r.2 (clos rs r.1))) := by
  have h1 : callF (n + 1) 23 [R rs, T r.1] = pure (L (sortS (clos rs r.1))) := s_settled_by n hin hr hn
  have ha := all_in 3 2 (ρ := [.va (R rs), .va (R1 r), .va (L (sortS (clos rs r.1))), .no]) (A := r.2) (F := sortS (clos rs r.1)) rfl (by simp) (by decide)
  rw [call_at]
  simp [bodies, b_is_settled, h1, ha, sub_sort]
/-! ### the law's own closure -/
abbrev El (rs : List Rule) (some F : List Str) (s3 s4 s5 s6 : Sl) : Env := [.va (R rs), .va (T some), .va (L F), s3, s4, s5, s6]
theorem turn_lsettled {names some F : List Str} {rs : List Rule} {r : Rule} {s3 s4 s5 s6 : Sl} (hin : In names F) (hr : RuleOk names r) (hn : names.length ≤ 12) :
    (gTup [gName 4, gName 5] (R1 r) (El rs some F s3 s4 s5 s6) >>= sIf (tVal (eOp2 eqD (eLst (cComp [6] (iAny (eOpd 4)) (gName 6) (tVal (eOp2 notInD (eOpd 6) (eOpd 2))) (eVar 6))) (eLst (aNil)))) (sSet 2 (xVal (eOp2 addD (eOpd 2) (eLst (cComp [6] (iAny (eOpd 5)) (gName 6) (tVal (eOp2 notInD (eOpd 6) (eOpd 2))) (eVar 6)))))) (sNil))
      = pure (.nx (El rs some (step F r) s3 (.va (T r.1)) (.va (T r.2)) s6)) := by
  have ha := new_of 6 2 (ρ := [.va (R rs), .va (T some), .va (L F), s3, .va (T r.1), .va (T r.2), .no]) (A := r.1) (F := F) rfl (by simp) (by decide)
  have hb := new_of 6 2 (ρ := [.va (R rs), .va (T some), .va (L F), s3, .va (T r.1), .va (T r.2), .no]) (A := r.2) (F := F) rfl (by simp) (by decide)
  have hl : F.length + (newOf r.2 F).length ≤ LIM := by
    have h1 := hin.len
    have h2 : (newOf r.2 F).length ≤ names.length := nodup_len (hr.rnd.filter _) fun x hx => hr.r x (mem_newOf.mp hx).1
    exact small (by omega) (by omega)
  have he := eqD_nil ((newOf r.1 F).map D.str) (dep_strs _)
  rw [List.isEmpty_map, newOf_empty] at he
  have hadd : addD (L F) (L (newOf r.2 F)) = pure (L (F ++ newOf r.2 F)) := by
    show fit ((F.map D.str).length + ((newOf r.2 F).map D.str).length) (pure (D.lst (F.map D.str ++ (newOf r.2 F).map D.str))) = _
    rw [List.length_map, List.length_map, fit_le hl, ← List.map_append]
  unfold step
  by_cases h : sub r.1 F = true
  · simp [ha, hb, he, h, hadd]
  · simp [ha, he, h]
theorem s_law_settled (n : Nat) {names some : List Str} {rs : List Rule} (hin : In names some) (hr : ∀ r ∈ rs, RuleOk names r) (hn : names.length ≤ 12) : callF (n + 1) 44 [R rs, T some] = pure (T (sortS (clos rs some))) := by
  have hl := (In.passN hr 20 hin).len
  have hs := sortD_strs (ss := clos rs some) (by unfold clos; omega)
  have hrg : range1D [.int 20] = pure ((List.range 20).map fun (i : Nat) => D.int i) := by
    show need (mid 20) (pure (rangeL 0 20)) = _
    rw [need_of (by decide)]
    unfold rangeL
    simp
  rw [call_at]
  simp [bodies, b__law_settled, hrg]
  apply Ev.eq
  refine Ev.bind (P := fun f => ∃ s3 s4 s5 s6, f = .nx (El rs some (clos rs some) s3 s4 s5 s6)) (forL_ev (fun xs ρ => ∃ F s3 s4 s5 s6, ρ = El rs some F s3 s4 s5 s6 ∧ In names F ∧ passN rs xs.length F = clos rs some) ?_ ?_ _ _ ⟨some, .no, .no, .no, .no, rfl, hin, by rw [List.length_map, List.length_range]; rfl⟩) ?_
  · rintro x xs ρ ⟨F, s3, s4, s5, s6, rfl, hF, he⟩
    generalize hP : TurnP _ _ = P
    simp
    subst hP
    refine Ev.mono (forL_ev (Q := fun f => ∃ s4 s5 s6, f = .nx (El rs some (pass rs F) (.va x) s4 s5 s6)) (fun xs ρ => ∃ (rs' : List Rule) (F' : List Str) (s4 s5 s6 : Sl), xs = rs'.map R1 ∧ ρ = El rs some F' (.va x) s4 s5 s6 ∧ In names F' ∧ (∀ r ∈ rs', RuleOk names r) ∧ pass rs' F' = pass rs F) ?_ ?_ _ _ ⟨rs, F, s4, s5, s6, rfl, rfl, hF, hr, rfl⟩) ?_
    · rintro y ys ρ ⟨rs', F', s4, s5, s6, e1, rfl, h1, h2, h3⟩
      cases rs' with
      | nil => cases e1
      | cons r rs' =>
        rw [List.map_cons, List.cons.injEq] at e1
        obtain ⟨rfl, rfl⟩ := e1
        exact Ev.of (turn_lsettled h1 (h2 r List.mem_cons_self) hn) ⟨rs', step F' r, _, _, _, rfl, rfl, h1.step (h2 r List.mem_cons_self), fun q hq => h2 q (List.mem_cons_of_mem _ hq), h3⟩
    · rintro ρ ⟨rs', F', s4, s5, s6, e1, rfl, h1, h2, h3⟩
      cases rs' with
      | cons r rs' => cases e1
      | nil => exact ⟨_, _, _, by rw [← h3]; rfl⟩
    · rintro f ⟨s4', s5', s6', rfl⟩
      exact ⟨pass rs F, _, _, _, _, rfl, hF.pass hr, he⟩
  · rintro ρ ⟨F, s3, s4, s5, s6, rfl, hF, he⟩
    exact ⟨_, _, _, _, by rw [← he]; rfl⟩
  · rintro f ⟨s3, s4, s5, s6, rfl⟩
    refine Ev.of (a := T (sortS (clos rs some))) ?_ rfl
    simp [hs]
end K82
end

section
set_option Elab.async false
set_option linter.all false
set_option maxRecDepth 100000
set_option autoImplicit false
set_option maxHeartbeats 1000000
namespace K82
open PySem (Str)
open RP
/-- names as they stand in a law's draw -/
theorem s_settled (n : Nat) {names some : List Str} {rs : List Rule} (w : World names rs) (hs : okNames some 0 = true) (hin : In names some) (hr : ∀ r ∈ rs, RuleOk names r) (hn : names.length ≤ 12) : callF (n + 7) 31 [T names, R rs, T some] = pure (T (sortS (clos rs some))) := by
  have h1 : callF (n + 6) 20 [T names, R rs] = pure .non := s_need_rules n w
  have h2 : callF (n + 6) 15 [T names, T some, .int 0] = pure (.bl true) := s_fits_some (n + 3) (least := 0) hs hin.sub
  have h3 : callF (n + 6) 23 [R rs, T some] = pure (L (sortS (clos rs some))) := s_settled_by (n + 5) hin hr hn
  rw [call_at]
  simp [bodies, b_settled, h1, h2, h3]
structure ROk (names : List Str) (r : Rule) : Prop where
  ok : okRule names r
  lin : In names r.1
theorem s_follows (n : Nat) {names : List Str} {rs : List Rule} {r : Rule} (w : World names rs) (h : ROk names r) (hr : ∀ r ∈ rs, RuleOk names r) (hn : names.length ≤ 12) : callF (n + 8) 32 [T names, R rs, R1 r] = pure (.bl (sub r.2 (clos rs r.1))) := by
  have h1 : callF (n + 7) 21 [T names, R rs, R1 r] = pure .non := s_need_rule n w h.ok
  have h2 : callF (n + 7) 24 [R rs, R1 r] = pure (.bl (sub r.2 (clos rs r.1))) := s_is_settled (n + 5) h.lin hr hn
  rw [call_at]
  simp [bodies, b_follows, h1, h2]
/-! ### documents of whole numbers -/
abbrev Fs (names : List Str) (val : Str → Int) : List D := names.map fun x => .tup [.str x, .int (val x)]
abbrev Dc (names : List Str) (val : Str → Int) : D := .tup [.str "doc", .tup (Fs names val)]
theorem zipL_self {α : Type} (f g : α → D) : ∀ xs : List α, zipL (xs.map f) (xs.map g) = xs.map fun x => .tup [f x, g x]
  | [] => rfl
  | x :: xs => by
    show D.tup [f x, g x] :: zipL (xs.map f) (xs.map g) = _
    rw [zipL_self f g xs]; rfl
theorem s_row_of_l (n : Nat) {names : List Str} (val : Str → Int) (hn : names.length ≤ 12) : callF (n + 1) 28 [T names, .lst (names.map fun x => .int (val x))] = pure (Dc names val) := by
  have hz : zipLD [T names, .lst (names.map fun x => .int (val x))] = pure (Fs names val) := by
    show fit (min (names.map D.str).length (names.map fun x => D.int (val x)).length) (pure (zipL (names.map D.str) (names.map fun x => .int (val x)))) = _
    rw [zipL_self, fit_le (by rw [List.length_map, List.length_map]; unfold LIM; omega)]
  rw [call_at]
  simp [bodies, b_row_of, hz]
theorem s_row_of_t (n : Nat) {names : List Str} (val : Str → Int) (hn : names.length ≤ 12) : callF (n + 1) 28 [T names, .tup (names.map fun x => .int (val x))] = pure (Dc names val) := by
  have hz : zipLD [T names, .tup (names.map fun x => .int (val x))] = pure (Fs names val) := by
    show fit (min (names.map D.str).length (names.map fun x => D.int (val x)).length) (pure (zipL (names.map D.str) (names.map fun x => .int (val x)))) = _
    rw [zipL_self, fit_le (by rw [List.length_map, List.length_map]; unfold LIM; omega)]
  rw [call_at]
  simp [bodies, b_row_of, hz]
theorem rep_zero {names : List Str} (hn : names.length ≤ 12) : mulD (.tup [.int 0]) (.int names.length) = pure (.tup (names.map fun _ => .int 0)) := by
  show (repD [.int 0] names.length >>= fun ys => pure (D.tup ys)) = _
  unfold repD
  have h1 : (decide (0 ≤ (names.length : Int)) && decide ((names.length : Int) ≤ 1000) && decide ([D.int 0].length ≤ 1000)) = true := by
    simp; omega
  rw [need_of h1, M.pureb']
  have : ∀ ns : List Str, (List.replicate ns.length [D.int 0]).flatten = ns.map fun _ => D.int 0 := by
    intro ns
    induction ns with
    | nil => rfl
    | cons x r ih => rw [List.length_cons, List.replicate_succ, List.flatten_cons, ih]; rfl
  rw [Int.toNat_natCast, this]
/-- 0 at what is known -/
def mark (known : List Str) (x : Str) : Int := if x ∈ known then 0 else 1
theorem s_against (n : Nat) {names : List Str} {rs : List Rule} {r : Rule} (w : World names rs) (h : ROk names r) (hr : ∀ r ∈ rs, RuleOk names r) (hn : names.length ≤ 12) :
    callF (n + 8) 35 [T names, R rs, R1 r] = pure (if sub r.2 (clos rs r.1) = true then .non else .tup [Dc names fun _ => 0, Dc names (mark (clos rs r.1))]) := by
  have h1 : callF (n + 7) 21 [T names, R rs, R1 r] = pure .non := s_need_rule n w h.ok
  have h2 : callF (n + 7) 24 [R rs, R1 r] = pure (.bl (sub r.2 (clos rs r.1))) := s_is_settled (n + 5) h.lin hr hn
  have h3 : callF (n + 7) 23 [R rs, T r.1] = pure (L (sortS (clos rs r.1))) := s_settled_by (n + 6) h.lin hr hn
  have h4 : callF (n + 7) 28 [T names, .tup (names.map fun _ => .int 0)] = pure (Dc names fun _ => 0) := s_row_of_t (n + 6) (fun _ => 0) hn
  have h5 : callF (n + 7) 28 [T names, .lst (names.map fun x => .int (mark (clos rs r.1) x))] = pure (Dc names (mark (clos rs r.1))) := s_row_of_l (n + 6) (mark (clos rs r.1)) hn
  have hc := compL_mapM (g := gName 4) (e := eIf (tVal (eOp2 inD (eOpd 4) (eOpd 3))) (eLit (.int 0)) (eLit (.int 1))) (ρ := [.va (T names), .va (R rs), .va (R1 r), .va (L (sortS (clos rs r.1))), .no]) D.str (fun x => .int (mark (clos rs r.1) x)) (xs := names) fun x _ => ⟨_, rfl, by
    by_cases hx : x ∈ clos rs r.1
    · have hx' := mem_sortS.mpr hx
      simp [mark, hx, hx']
    · have hx' : ¬ x ∈ sortS (clos rs r.1) := fun z => hx (mem_sortS.mp z)
      simp [mark, hx, hx']⟩
  have hrep := rep_zero hn
  rw [call_at]
  by_cases hb : sub r.2 (clos rs r.1) = true
  · simp [bodies, b_against, h1, h2, hb]
  · rw [Bool.not_eq_true] at hb
    simp [bodies, b_against, h1, h2, hb, h3, h4, h5, hc, hrep]
/-! ### values of a document -/
theorem filter_self {names : List Str} {x : Str} (nd : names.Nodup) (hx : x ∈ names) : names.filter (fun y => y == x) = [x] := by
  induction names with
  | nil => cases hx
  | cons y r ih =>
    rw [List.nodup_cons] at nd
    by_cases e : y = x
    · subst e
      rw [List.filter_cons, if_pos (beq_self_eq_true y)]
      have : r.filter (fun z => z == y) = [] := by
        rw [List.filter_eq_nil_iff]
        intro z hz he
        rw [eq_of_beq he] at hz
        exact nd.1 hz
      rw [this]
    · rw [List.filter_cons, if_neg (by simpa using e)]
      exact ih nd.2 ((List.mem_cons.mp hx).resolve_left fun z => e z.symm)
theorem eqD_str (a b : Str) : eqD (.str a) (.str b) = pure (.bl (a == b)) := by
  show need _ (pure (D.bl (D.eqv (.str a) (.str b)))) = _
  rw [eqv_str]; rfl
theorem eqD_int (a b : Int) : eqD (.int a) (.int b) = pure (.bl (a == b)) := by
  show need _ (pure (D.bl (D.eqv (.int a) (.int b)))) = _
  rw [eqv_int]; rfl
theorem neD_int (a b : Int) : neD (.int a) (.int b) = pure (.bl (!(a == b))) := by
  show need _ (pure (D.bl (!D.eqv (.int a) (.int b)))) = _
  rw [eqv_int]; rfl
theorem s_value_at (n : Nat) {names : List Str} {val : Str → Int} {x : Str} (nd : names.Nodup) (hx : x ∈ names) : callF (n + 1) 25 [Dc names val, .str x] = pure (.int (val x)) := by
  have hc := compL_valM (g := gName 2) (t := tVal (eOp2 eqD (eOp2 ixD (eOpd 2) (eLit (.int 0))) (eOpd 1))) (e := eOp2 ixD (eOpd 2) (eLit (.int 1))) (ρ := [.va (Dc names val), .va (.str x), .no])
    (fun y => D.tup [.str y, .int (val y)]) (fun y => y == x) (fun y => .int (val y)) (xs := names) fun y _ => ⟨_, rfl, by simp [eqD_str], fun _ => by simp⟩
  rw [filter_self nd hx] at hc
  rw [call_at]
  simp [bodies, b_value_at, hc]
theorem s_sign_of (n : Nat) (a b : Int) : callF (n + 1) 11 [.int a, .int b] = pure (.int (if a < b then -1 else if b < a then 1 else 0)) := by
  rw [call_at]
  by_cases h1 : a < b
  · simp [bodies, b_sign_of, h1]
  · by_cases h2 : b < a
    · simp [bodies, b_sign_of, h1, h2]
    · simp [bodies, b_sign_of, h1, h2]
theorem s_kind_int (n : Nat) (a : Int) : callF (n + 1) 10 [.int a] = pure (.str "number") := by
  rw [call_at]
  simp [bodies, b_kind_in]
theorem idx_number : idxD (.tup [.str "null", .str "number", .str "text", .str "doc", .str "list", .str "truth"]) (.str "number") = pure (.int 1) := by rfl
theorem inD_number : inD (.str "number") (.tup [.str "number", .str "text", .str "truth"]) = pure (.bl true) := by rfl
theorem s_compared_int (n : Nat) (a b : Int) : callF (n + 2) 12 [.int a, .int b] = pure (.int (if a < b then -1 else if b < a then 1 else 0)) := by
  have h1 := s_kind_int n a
  have h2 := s_kind_int n b
  have h3 := s_sign_of n a b
  have h4 := s_sign_of n 1 1
  have h5 : eqD (.str "number") (.str "null") = pure (.bl false) := by rfl
  rw [if_neg (by decide), if_neg (by decide)] at h4
  rw [call_at]
  simp [bodies, b_compared, h1, h2, h3, h4, idx_number, inD_number, neD_int, h5]
theorem s_alike_int (n : Nat) (a b : Int) : callF (n + 3) 13 [.int a, .int b] = pure (.bl (decide (a = b))) := by
  have h1 := s_compared_int n a b
  rw [call_at]
  simp only [bodies, b_are_alike, runB_2, List.replicate, sRet_ev, eOp2_ev, eCall_ev, aCons_ev, aNil_ev, eVar_0, eVar_s, eLit_ev, M.pureb', M.assoc', h1, eqD_int, outF_rt]
  congr 2
  by_cases e1 : a < b
  · rw [if_pos e1, decide_eq_false (by omega)]; rfl
  · rw [if_neg e1]
    by_cases e2 : b < a
    · rw [if_pos e2, decide_eq_false (by omega)]; rfl
    · rw [if_neg e2, decide_eq_true (by omega)]; rfl
/-- alike at some names -/
def same (u v : Str → Int) (A : List Str) : Bool := A.all fun x => decide (u x = v x)
theorem s_alike_at (n : Nat) {names A : List Str} {u v : Str → Int} (nd : names.Nodup) (hA : ∀ x ∈ A, x ∈ names) : callF (n + 4) 26 [Dc names u, Dc names v, T A] = pure (.bl (same u v A)) := by
  have ha := all_compM (g := gName 3) (e := eCall (callF (n + 3) 13) (aCons (eCall (callF (n + 3) 25) (aCons (eVar 0) (aCons (eVar 3) aNil))) (aCons (eCall (callF (n + 3) 25) (aCons (eVar 1) (aCons (eVar 3) aNil))) aNil))) (ρ := [.va (Dc names u), .va (Dc names v), .va (T A), .no]) D.str (fun x => decide (u x = v x)) (xs := A) fun x hx => ⟨_, rfl, by
    have h1 : callF (n + 3) 25 [Dc names u, .str x] = pure (.int (u x)) := s_value_at (n + 2) nd (hA x hx)
    have h2 : callF (n + 3) 25 [Dc names v, .str x] = pure (.int (v x)) := s_value_at (n + 2) nd (hA x hx)
    simp [h1, h2, s_alike_int]⟩
  rw [call_at]
  simp [bodies, b_are_alike_at, ha, same]
end K82
end

section
set_option Elab.async false
set_option linter.all false
set_option maxRecDepth 100000
set_option autoImplicit false
set_option maxHeartbeats 1000000
namespace K82
open PySem (Str)
open RP
theorem r1_2 : range1D [.int 2] = pure [.int 0, .int 1] := by rfl
theorem r2_12 : range2D [.int 1, .int 2] = pure [.int 1] := by rfl
theorem r2_22 : range2D [.int 2, .int 2] = pure [] := by rfl
theorem s_breach_of (n : Nat) {names : List Str} {r : Rule} {u v : Str → Int} (nd : names.Nodup) (h1 : ∀ x ∈ r.1, x ∈ names) (h2 : ∀ x ∈ r.2, x ∈ names) :
    callF (n + 5) 27 [.tup [Dc names u, Dc names v], R1 r] = pure (if same u v r.1 = true ∧ same u v r.2 = false then .tup [.int 0, .int 1] else .non) := by
  have k1 := s_alike_at n (u := u) (v := v) nd h1
  have k2 := s_alike_at n (u := u) (v := v) nd h2
  rw [call_at]
  cases b1 : same u v r.1 <;> cases b2 : same u v r.2 <;> simp [bodies, b_breach_of, r1_2, r2_12, r2_22, forL_cons, k1, k2, b1, b2]
theorem ixD_fld (g : Str → D) {names : List Str} {x : Str} (hx : x ∈ names) : True := trivial
theorem s_law_values (n : Nat) {names A : List Str} {u : Str → Int} (nd : names.Nodup) (hA : ∀ x ∈ A, x ∈ names) : callF (n + 1) 46 [Dc names u, T A] = pure (.tup (A.map fun x => .int (u x))) := by
  have hd := dictD_nodup (fun x => .int (u x)) nd
  have hc := compL_mapM (g := gName 3) (e := eOp2 ixD (eOpd 2) (eOpd 3)) (ρ := [.va (Dc names u), .va (T A), .va (.dct (names.map D.str) (names.map fun x => .int (u x))), .no]) D.str (fun x => .int (u x)) (xs := A) fun x hx => ⟨_, rfl, by
    have := ixD_dct (fun x => D.int (u x)) (hA x hx)
    simp [this]⟩
  rw [call_at]
  simp [bodies, b__law_values, hd, hc]
theorem s_law_breach (n : Nat) {names : List Str} {r : Rule} {u v : Str → Int} (nd : names.Nodup) (h1 : ∀ x ∈ r.1, x ∈ names) (h2 : ∀ x ∈ r.2, x ∈ names) :
    callF (n + 2) 47 [.tup [Dc names u, Dc names v], R1 r] = pure (if same u v r.1 = true ∧ same u v r.2 = false then .tup [.int 0, .int 1] else .non) := by
  have k1 := s_law_values n (u := u) nd h1
  have k2 := s_law_values n (u := v) nd h1
  have k3 := s_law_values n (u := u) nd h2
  have k4 := s_law_values n (u := v) nd h2
  have e1 := eqD_ints u v r.1
  have e2 := neD_ints u v r.2
  rw [show (r.1.all fun x => decide (u x = v x)) = same u v r.1 from rfl] at e1
  rw [show (r.2.all fun x => decide (u x = v x)) = same u v r.2 from rfl] at e2
  have f1 : neD (.lst []) (.lst []) = pure (.bl false) := by rfl
  have f2 : neD (.lst [.tup [.int 0, .int 1]]) (.lst []) = pure (.bl true) := by rfl
  have hl : 1 ≤ LIM := by decide
  rw [call_at]
  cases b1 : same u v r.1 <;> cases b2 : same u v r.2 <;> simp [bodies, b__law_breach, r1_2, r2_12, r2_22, forL_cons, k1, k2, k3, k4, e1, e2, b1, b2, f1, f2, hl]
theorem eqD_ones (xs : List Rule) (p : Rule → Bool) : eqD (.lst ((xs.filter p).map fun _ => .int 1)) (.lst []) = pure (.bl (xs.all fun r => !p r)) := by
  have hd : (D.lst ((xs.filter p).map fun _ => D.int 1)).dep ≤ 64 := by
    have := depL_map (fun (_ : Rule) => D.int 1) 0 (fun _ => Nat.le_refl _) (xs.filter p)
    unfold D.dep; omega
  rw [eqD_nil _ hd, List.isEmpty_map]
  congr 2
  rw [Bool.eq_iff_iff, List.isEmpty_iff, List.filter_eq_nil_iff, List.all_eq_true]
  constructor
  · intro h r hr
    have := h r hr
    simpa using this
  · intro h r hr
    have := h r hr
    simpa using this
theorem s_law_keeps (n : Nat) {names : List Str} {rs : List Rule} {u v : Str → Int} (nd : names.Nodup) (h : ∀ r ∈ rs, (∀ x ∈ r.1, x ∈ names) ∧ ∀ x ∈ r.2, x ∈ names) :
    callF (n + 3) 48 [.tup [Dc names u, Dc names v], R rs] = pure (.bl (rs.all fun r => !(same u v r.1 && !same u v r.2))) := by
  have hc := compL_valM (g := gName 2) (t := tVal (eOp1 isNotNoneD (eCall (callF (n + 2) 47) (aCons (eVar 0) (aCons (eVar 2) (aNil)))))) (e := eLit (.int 1)) (ρ := [.va (.tup [Dc names u, Dc names v]), .va (R rs), .no]) R1 (fun r => same u v r.1 && !same u v r.2) (fun _ => .int 1) (xs := rs) fun r hr => ⟨_, rfl, by
    have := s_law_breach n (u := u) (v := v) nd (h r hr).1 (h r hr).2
    cases b1 : same u v r.1 <;> cases b2 : same u v r.2 <;> simp [this, b1, b2], fun _ => rfl⟩
  have he := eqD_ones rs fun r => same u v r.1 && !same u v r.2
  rw [call_at]
  simp [bodies, b__law_keeps, hc, he]
/-! ### a table -/
def inRange (i : Int) : Prop := -1000000000000 ≤ i ∧ i ≤ 1000000000000
theorem s_plain_int (n : Nat) {i : Int} (h : inRange i) : callF (n + 2) 4 [.int i] = pure (.bl true) := by
  have h1 : callF (n + 1) 0 [.int i, .int (-1000000000000), .int 1000000000000] = pure (.bl true) := by
    rw [s_is_whole]; simp [h.1, h.2]
  rw [call_at]
  simp [bodies, b_fits_plain, h1]
theorem s_plain_tup (n : Nat) (xs : List D) : callF (n + 2) 4 [.tup xs] = pure (.bl false) := by
  have h1 : callF (n + 1) 0 [.tup xs, .int (-1000000000000), .int 1000000000000] = pure (.bl false) := by
    rw [s_is_wholeD n (.tup xs) _ _ rfl]; rfl
  rw [call_at]
  simp [bodies, b_fits_plain, h1]
theorem notIn_doc : notInD (.str "doc") (.tup [.str "list", .str "doc"]) = pure (.bl false) := by rfl
theorem eq_doc : eqD (.str "doc") (.str "doc") = pure (.bl true) := by rfl
theorem s_is_knot (n : Nat) {names : List Str} {u : Str → Int} (hn : names.length ≤ 12) : callF (n + 2) 5 [Dc names u] = pure (.bl true) := by
  have h1 : callF (n + 1) 1 [Dc names u, .int 2, .int 2] = pure (.bl true) := by rw [s_is_tuple_of n (Dc names u) 2 2 rfl]; rfl
  have h2 : callF (n + 1) 1 [.tup (Fs names u), .int 0, .int 16] = pure (.bl true) := by
    rw [s_is_tuple_of n (.tup (Fs names u)) 0 16 rfl]
    have : (names.length : Int) ≤ 16 := by omega
    simp [tupleOf, this]
  rw [call_at]
  simp [bodies, b_is_knot, h1, h2, notIn_doc]
theorem s_fits_fields (n : Nat) {names : List Str} {u : Str → Int} (nd : names.Nodup) (ok : names.all isNameS = true) (hn : names.length ≤ 12) : callF (n + 2) 6 [.tup (Fs names u)] = pure (.bl true) := by
  have ha := all_compM (g := gName 2) (e := eAndV (eCall (callF (n + 1) 1) (aCons (eVar 2) (aCons (eLit (.int 2)) (aCons (eLit (.int 2)) (aNil))))) (eCall (callF (n + 1) 2) (aCons (eOp2 ixD (eOpd 2) (eLit (.int 0))) (aNil)))) (ρ := [.va (.tup (Fs names u)), .no, .no]) (fun x => D.tup [.str x, .int (u x)]) (fun x => isNameS x) (xs := names) fun x _ => ⟨_, rfl, by
    have h1 : callF (n + 1) 1 [.tup [.str x, .int (u x)], .int 2, .int 2] = pure (.bl true) := by rw [s_is_tuple_of n _ 2 2 rfl]; rfl
    have h2 := s_is_name_str n x
    simp [h1, h2]⟩
  rw [ok] at ha
  have hc := compL_mapM (g := gName 2) (e := eOp2 ixD (eOpd 2) (eLit (.int 0))) (ρ := [.va (.tup (Fs names u)), .no, .no]) (fun x => D.tup [.str x, .int (u x)]) D.str (xs := names) fun x _ => ⟨_, rfl, by simp⟩
  have hs := lenSet_nodup nd (by omega)
  have he := eqD_int names.length names.length
  rw [beq_self_eq_true] at he
  rw [call_at]
  simp [bodies, b_fits_fields, ha, hc, hs, he]
theorem s_inner_of (n : Nat) {names : List Str} {u : Str → Int} : callF (n + 1) 7 [Dc names u] = pure (.lst (names.map fun x => .int (u x))) := by
  have hc := compL_mapM (g := gName 1) (e := eOp2 ixD (eOpd 1) (eLit (.int 1))) (ρ := [.va (Dc names u), .no]) (fun x => D.tup [.str x, .int (u x)]) (fun x => .int (u x)) (xs := names) fun x _ => ⟨_, rfl, by simp⟩
  rw [call_at]
  simp [bodies, b_inner_of, eq_doc, hc]
theorem s_is_doc (n : Nat) {names : List Str} {u : Str → Int} : callF (n + 1) 9 [Dc names u] = pure (.bl true) := by
  rw [call_at]
  simp [bodies, b_is_doc, eq_doc]
end K82
end

section
set_option Elab.async false
set_option linter.all false
set_option maxRecDepth 100000
set_option autoImplicit false
set_option maxHeartbeats 1000000
namespace K82
open PySem (Str)
open RP
abbrev two (i : Int) : D := .tup [.int i, .int 2]
theorem neD_twos (ws : List Int) : neD (.lst (ws.map two)) (.lst []) = pure (.bl (!ws.isEmpty)) := by
  have hd : (D.lst (ws.map two)).dep ≤ 64 := by
    have := depL_map two 1 (fun x => Nat.le_refl _) ws
    unfold D.dep; omega
  rw [neD_nil _ hd, List.isEmpty_map]
theorem dep_names (ss : List Str) : D.depL (ss.map D.str) = 0 := depL_str ss
theorem dep_Dc (names : List Str) (u : Str → Int) : (Dc names u).dep ≤ 3 := by
  have h1 : D.depL (Fs names u) ≤ 1 := depL_map (fun x => D.tup [.str x, .int (u x)]) 1 (fun x => Nat.le_refl _) names
  show max (D.dep (.str "doc")) (max (D.depL (Fs names u) + 1) 0) + 1 ≤ 3
  have : D.dep (.str "doc") = 0 := rfl
  omega
theorem neD_first (names : List Str) (u : Str → Int) : neD (.lst [.tup [Dc names u, .int 1]]) (.lst []) = pure (.bl true) := by
  rw [neD_nil]
  · rfl
  · have h := dep_Dc names u
    show max (max (D.dep (Dc names u)) (max (D.dep (.int 1)) 0) + 1) 0 + 1 ≤ 64
    have : D.dep (.int 1) = 0 := rfl
    omega
abbrev Ev0 (names : List Str) (u : Str → Int) (o : List D) (s2 s3 s4 : Sl) : Env := [.va (Dc names u), .own o, s2, s3, s4]
theorem s_fits_value (n : Nat) {names : List Str} {u : Str → Int} (nd : names.Nodup) (ok : names.all isNameS = true) (hn : names.length ≤ 12) (hu : ∀ x ∈ names, inRange (u x)) : callF (n + 4) 8 [Dc names u] = pure (.bl true) := by
  have k1 : callF (n + 3) 4 [Dc names u] = pure (.bl false) := s_plain_tup (n + 1) _
  have k2 : callF (n + 3) 5 [Dc names u] = pure (.bl true) := s_is_knot (n + 1) hn
  have k3 : callF (n + 3) 6 [.tup (Fs names u)] = pure (.bl true) := s_fits_fields (n + 1) nd ok hn
  have k4 : callF (n + 3) 7 [Dc names u] = pure (.lst (names.map fun x => .int (u x))) := s_inner_of (n + 2)
  have kc := compL_mapM (g := gName 4) (e := eTup (aCons (eVar 4) (aCons (eOp2 addD (eOpd 3) (eLit (.int 1))) (aNil)))) (ρ := [.va (Dc names u), .own [], .va (Dc names u), .va (.int 1), .no]) (fun x => .int (u x)) (fun x => two (u x)) (xs := names) fun x _ => ⟨_, rfl, by simp⟩
  have hl : names.length ≤ LIM := by unfold LIM; omega
  rw [call_at]
  simp [bodies, b_fits_value]
  apply Ev.eq
  refine Ev.bind (P := fun f => ∃ ρ, f = .nx ρ) (whileL_ev (fun m ρ => (m = 100 ∧ ρ = Ev0 names u [.tup [Dc names u, .int 1]] .no .no .no) ∨ (∃ (ws : List Int) (s2 s3 s4 : Sl), ρ = Ev0 names u (ws.map two) s2 s3 s4 ∧ (∀ w ∈ ws, inRange w) ∧ m = ws.length ∧ ws.length ≤ 12)) ?_ FUEL 100 _ (by decide) (.inl ⟨rfl, rfl⟩)) ?_
  · rintro m ρ (⟨rfl, rfl⟩ | ⟨ws, s2, s3, s4, rfl, hw, rfl, hl2⟩)
    · refine .inl ⟨by simp [neD_first], ?_⟩
      generalize hP : TurnP _ _ = P
      have hpop := sPop_snoc (i := 1) (g := gTup [gName 2, gName 3]) (ρ := Ev0 names u [.tup [Dc names u, .int 1]] .no .no .no) (xs := []) (y := .tup [Dc names u, .int 1]) rfl
      rw [sSeq_ev, hpop]
      simp [k1, k2, k3, k4, eq_doc, kc, hl]
      subst hP
      apply Ev.pure
      show ∃ m, m < _ ∧ _
      refine ⟨names.length, by omega, .inr ⟨names.map u, .va (Dc names u), .va (.int 1), .no, ?_, ?_, by rw [List.length_map], by rw [List.length_map]; exact hn⟩⟩
      · show _ = Ev0 names u ((names.map u).map two) _ _ _
        rw [List.map_map]; rfl
      · intro w hw
        obtain ⟨x, hx, rfl⟩ := List.mem_map.mp hw
        exact hu x hx
    · rcases List.eq_nil_or_concat ws with rfl | ⟨ws', w, e⟩
      · have := neD_twos []
        refine .inr ⟨?_, _, rfl⟩
        simp at this ⊢
        simp [this]
      · rw [List.concat_eq_append] at e
        subst e
        have ht := neD_twos (ws' ++ [w])
        have hpop := sPop_snoc (i := 1) (g := gTup [gName 2, gName 3]) (ρ := Ev0 names u ((ws' ++ [w]).map two) s2 s3 s4) (xs := ws'.map two) (y := two w) (by simp)
        have hp : callF (n + 3) 4 [.int w] = pure (.bl true) := s_plain_int (n + 1) (hw w (by simp))
        refine .inl ⟨?_, ?_⟩
        · have e : (!(ws' ++ [w]).isEmpty) = true := by simp
          rw [e] at ht
          rw [tVal_ev, eOp2_ev]
          show (neD (.lst ((ws' ++ [w]).map two)) (.lst []) >>= asBl) = _
          rw [ht]; rfl
        · generalize hP : TurnP _ _ = P
          rw [sSeq_ev, hpop]
          simp [hp]
          subst hP
          apply Ev.pure
          show ∃ m, m < _ ∧ _
          refine ⟨ws'.length, by simp, .inr ⟨ws', _, _, _, rfl, fun x hx => hw x (by simp [hx]), rfl, by simp at hl2; omega⟩⟩
  · rintro f ⟨ρ, rfl⟩
    refine Ev.of (a := .bl true) ?_ rfl
    simp
theorem s_fits_table (n : Nat) {names : List Str} {u v : Str → Int} (nd : names.Nodup) (ok : names.all isNameS = true) (hn : names.length ≤ 12) (hu : ∀ x ∈ names, inRange (u x)) (hv : ∀ x ∈ names, inRange (v x)) :
    callF (n + 5) 18 [T names, .tup [Dc names u, Dc names v]] = pure (.bl true) := by
  have h1 : callF (n + 4) 1 [.tup [Dc names u, Dc names v], .int 0, .int 10] = pure (.bl true) := by rw [s_is_tuple_of (n + 3) _ 0 10 rfl]; rfl
  have hc : ∀ (w : Str → Int), compL (gName 3) tYes (eOp2 ixD (eOpd 3) (eLit (.int 0))) [.va (T names), .va (.tup [Dc names u, Dc names v]), .va (Dc names w), .no] (Fs names w) = pure (names.map D.str) := fun w =>
    compL_mapM (fun x => D.tup [.str x, .int (w x)]) D.str (xs := names) fun x _ => ⟨_, rfl, by simp⟩
  have he := eqD_T names names
  rw [beq_self_eq_true] at he
  have ha := all_compM (g := gName 2) (e := eAndV (eCall (callF (n + 4) 8) (aCons (eVar 2) (aNil))) (eCall (callF (n + 4) 9) (aCons (eVar 2) (aNil)))) (ρ := [.va (T names), .va (.tup [Dc names u, Dc names v]), .no, .no]) (fun (w : Str → Int) => Dc names w) (fun _ => true) (xs := [u, v]) fun w hw => ⟨_, rfl, by
    have hin : ∀ x ∈ names, inRange (w x) := by
      rcases List.mem_cons.mp hw with rfl | hw
      · exact hu
      · rw [List.mem_singleton.mp hw]; exact hv
    have k1 : callF (n + 4) 8 [Dc names w] = pure (.bl true) := s_fits_value n nd ok hn hin
    have k2 : callF (n + 4) 9 [Dc names w] = pure (.bl true) := s_is_doc (n + 3)
    simp [k1, k2]⟩
  have hb := all_compM (g := gName 2) (e := eOp2 eqD (eCall tupleD (aCons (eLst (cComp [3] (iAny (eOp2 ixD (eOpd 2) (eLit (.int 1)))) (gName 3) (tYes) (eOp2 ixD (eOpd 3) (eLit (.int 0))))) aNil)) (eOpd 0)) (ρ := [.va (T names), .va (.tup [Dc names u, Dc names v]), .no, .no]) (fun (w : Str → Int) => Dc names w) (fun _ => true) (xs := [u, v]) fun w hw => ⟨_, rfl, by
    simp [hc w, he]⟩
  simp only [List.map_cons, List.map_nil, List.all_cons, List.all_nil, Bool.and_self, Bool.and_true] at ha hb
  rw [call_at]
  simp [bodies, b_fits_table, h1, ha, hb]
theorem s_breach (n : Nat) {names : List Str} {r : Rule} {u v : Str → Int} (hok : okNames names 1 = true) (nd : names.Nodup) (ok : names.all isNameS = true) (hn : names.length ≤ 12) (hu : ∀ x ∈ names, inRange (u x)) (hv : ∀ x ∈ names, inRange (v x)) (hr : okRule names r) :
    callF (n + 7) 36 [T names, .tup [Dc names u, Dc names v], R1 r] = pure (if same u v r.1 = true ∧ same u v r.2 = false then .tup [.int 0, .int 1] else .non) := by
  have h0 : callF (n + 5) 19 [T names] = pure .non := s_need_names (n + 2) hok
  have h1 : callF (n + 5) 18 [T names, .tup [Dc names u, Dc names v]] = pure (.bl true) := s_fits_table n nd ok hn hu hv
  have h2 : callF (n + 6) 22 [T names, .tup [Dc names u, Dc names v]] = pure .non := by
    rw [call_at]
    simp [bodies, b_need_table, h0, h1]
  have h3 : callF (n + 6) 16 [T names, R1 r] = pure (.bl true) := s_fits_rule (n + 2) hr
  have h4 := s_breach_of (n + 1) (u := u) (v := v) nd hr.2.1 hr.2.2.2
  rw [call_at]
  simp [bodies, b_breach, h2, h3, h4]
end K82
end

section
set_option Elab.async false
set_option linter.all false
set_option maxRecDepth 100000
set_option autoImplicit false
set_option maxHeartbeats 1000000
namespace K82
open PySem (Str)
open RP
abbrev Is (is : List Int) : D := .tup (is.map D.int)
abbrev Ns (is : List Nat) : D := .tup (is.map fun (i : Nat) => D.int i)
theorem at_rule {rs : List Rule} {i : Nat} (h : i < rs.length) : (rs.map R1)[i]? = some (R1 (ruleAt rs i)) := by
  rw [List.getElem?_map, List.getElem?_eq_getElem h]
  show some (R1 rs[i]) = some (R1 (rs.getD i ([], [])))
  rw [List.getD_eq_getElem?_getD, List.getElem?_eq_getElem h]
  rfl
theorem ix_rule {rs : List Rule} {i : Nat} (h : i < rs.length) : ixD (R rs) (.int (i : Nat)) = pure (R1 (ruleAt rs i)) := by
  rw [ixD_tup, atI_nat, at_rule h]; rfl
theorem addD_L (a b : List Str) (h : a.length + b.length ≤ LIM) : addD (L a) (L b) = pure (L (a ++ b)) := by
  show fit ((a.map D.str).length + (b.map D.str).length) (pure (D.lst (a.map D.str ++ b.map D.str))) = _
  rw [List.length_map, List.length_map, fit_le h, ← List.map_append]
theorem eqD_new (A F : List Str) : eqD (.lst ((newOf A F).map D.str)) (.lst []) = pure (.bl (sub A F)) := by
  rw [eqD_nil _ (dep_strs _), List.isEmpty_map, newOf_empty]
theorem neD_new (A F : List Str) : neD (.lst ((newOf A F).map D.str)) (.lst []) = pure (.bl (!sub A F)) := by
  rw [neD_nil _ (dep_strs _), List.isEmpty_map, newOf_empty]
theorem dep_one (xs : List Str) : (D.lst (xs.map fun _ => D.int 1)).dep ≤ 64 := by
  have := depL_map (fun (_ : Str) => D.int 1) 0 (fun _ => Nat.le_refl _) xs
  unfold D.dep; omega
theorem eqD_new1 (A F : List Str) : eqD (.lst ((newOf A F).map fun _ => .int 1)) (.lst []) = pure (.bl (sub A F)) := by
  rw [eqD_nil _ (dep_one _), List.isEmpty_map, newOf_empty]
theorem neD_new1 (A F : List Str) : neD (.lst ((newOf A F).map fun _ => .int 1)) (.lst []) = pure (.bl (!sub A F)) := by
  rw [neD_nil _ (dep_one _), List.isEmpty_map, newOf_empty]
/-! ### the law's is_proof -/
abbrev Ep (rs : List Rule) (r : Rule) (v : D) (K : List Str) (s4 s5 : Sl) : Env := [.va (R rs), .va (R1 r), .va v, .va (L K), s4, s5]
theorem s_law_is_proof (n : Nat) {rs : List Rule} {r : Rule} {is : List Int} (hl : is.length ≤ 40) (hr : ∀ q ∈ rs, q.2.length ≤ 12) (h0 : r.1.length ≤ 12) : callF (n + 1) 50 [R rs, R1 r, Is is] = pure (.bl (lproofB rs r is)) := by
  rw [call_at]
  simp [bodies, b__law_is_proof]
  apply Ev.eq
  refine Ev.bind (P := fun f => (lrun rs r.1 is = none ∧ f = .rt (.bl false)) ∨ ∃ K s4 s5, lrun rs r.1 is = some K ∧ f = .nx (Ep rs r (Is is) K s4 s5))
    (forL_ev (fun xs ρ => ∃ js K s4 s5, xs = List.map D.int js ∧ ρ = Ep rs r (Is is) K s4 s5 ∧ lrun rs K js = lrun rs r.1 is ∧ K.length + 12 * js.length ≤ 12 + 12 * is.length) ?_ ?_ _ _ ⟨is, r.1, .no, .no, rfl, rfl, rfl, by omega⟩) ?_
  · rintro x xs ρ ⟨js, K, s4, s5, e1, rfl, e2, hk⟩
    cases js with
    | nil => cases e1
    | cons j js =>
      rw [List.map_cons, List.cons.injEq] at e1
      obtain ⟨rfl, rfl⟩ := e1
      rw [List.length_cons] at hk
      have e3 : lrun rs K (j :: js) = if okAt rs j = true ∧ sub (ruleAt rs j.toNat).1 K = true then lrun rs (K ++ (ruleAt rs j.toNat).2) js else none := rfl
      by_cases hj : okAt rs j = true
      · have hj' := hj
        unfold okAt at hj'
        rw [Bool.and_eq_true, decide_eq_true_eq, decide_eq_true_eq] at hj'
        obtain ⟨i, rfl⟩ : ∃ i : Nat, j = i := ⟨j.toNat, by omega⟩
        have hi : i < rs.length := by omega
        have hc := new_of 5 3 (ρ := [.va (R rs), .va (R1 r), .va (Is is), .va (L K), .va (.int i), .no]) (A := (ruleAt rs i).1) (F := K) rfl (by simp) (by decide)
        have hx := ix_rule hi
        have hne := neD_new (ruleAt rs i).1 K
        have hrl := hr _ (ruleAt_mem hi)
        have had := addD_L K (ruleAt rs i).2 (by unfold LIM; omega)
        have hnn : ¬ ((i : Int) < 0) := by omega
        have hi2 : ¬ ((rs.length : Int) ≤ (i : Int)) := by omega
        rw [hj, Int.toNat_natCast] at e3
        cases hs : sub (ruleAt rs i).1 K with
        | true =>
          rw [hs, if_pos ⟨rfl, rfl⟩] at e3
          refine Ev.tnx (ρ := Ep rs r (Is is) (K ++ (ruleAt rs i).2) (.va (.int i)) s5) ?_ ⟨js, _, _, _, rfl, rfl, by rw [← e2, e3], by rw [List.length_append]; omega⟩
          simp [hj'.1, hj'.2, hx, hc, hne, hs, had]
        | false =>
          rw [hs, if_neg (fun z => nomatch z.2)] at e3
          refine Ev.trt (d := .bl false) ?_ (.inl ⟨by rw [← e2, e3], rfl⟩)
          simp [hj'.1, hj'.2, hx, hc, hne, hs]
      · rw [if_neg (fun z => hj z.1)] at e3
        refine Ev.trt (d := .bl false) ?_ (.inl ⟨by rw [← e2, e3], rfl⟩)
        unfold okAt at hj
        have hj' : (decide (0 ≤ j) && decide (j < (rs.length : Int))) = false := by
          rw [Bool.not_eq_true] at hj; exact hj
        simp [hj']
  · rintro ρ ⟨js, K, s4, s5, e1, rfl, e2, hk⟩
    cases js with
    | cons j js => cases e1
    | nil => exact .inr ⟨K, s4, s5, by rw [← e2]; rfl, rfl⟩
  · rintro f (⟨e, rfl⟩ | ⟨K, s4, s5, e, rfl⟩)
    · refine Ev.of (a := .bl (lproofB rs r is)) ?_ rfl
      unfold lproofB
      simp [e]
    · have hc := new_of 5 3 (ρ := [.va (R rs), .va (R1 r), .va (Is is), .va (L K), s4, .no]) (A := r.2) (F := K) rfl (by simp) (by decide)
      have hne := eqD_new r.2 K
      refine Ev.of (a := .bl (lproofB rs r is)) ?_ rfl
      unfold lproofB
      simp [e, hc, hne]
end K82
end

section
set_option Elab.async false
set_option linter.all false
set_option maxRecDepth 100000
set_option autoImplicit false
set_option maxHeartbeats 1000000
namespace K82
open PySem (Str)
open RP
abbrev Eq6 (names : List Str) (rs : List Rule) (r : Rule) (v : D) (K : List Str) (s5 s6 : Sl) : Env := [.va (T names), .va (R rs), .va (R1 r), .va v, .own (K.map D.str), s5, s6]
theorem all_whole (n : Nat) {names : List Str} {rs : List Rule} {r : Rule} {ds : List D} (hp : ∀ x ∈ ds, x.plain = true) :
    (compL (gName 5) tYes (eCall (callF (n + 7) 0) (aCons (eVar 5) (aCons (eLit (.int 0)) (aCons (eOp2 subD (eCall lenD (aCons (eOpd 1) aNil)) (eLit (.int 1))) (aNil))))) [.va (T names), .va (R rs), .va (R1 r), .va (.tup ds), .no, .no, .no] ds >>= fun ys => allBl ys >>= fun bs => (pure (.bl (bs.all id)) : M D)) = pure (.bl (ds.all fun x => whole x 0 ((rs.length : Int) - 1))) :=
  all_compL (fun x => whole x 0 ((rs.length : Int) - 1)) fun x hx => ⟨_, rfl, by
    have := s_is_wholeD (n + 6) x 0 ((rs.length : Int) - 1) (hp x hx)
    simp [this]⟩
theorem s_is_proof_no (n : Nat) {names : List Str} {rs : List Rule} {r : Rule} {d : D} (w : World names rs) (h : ROk names r) (hd : d.plain = true) (ht : ∀ ds, d = .tup ds → (∀ x ∈ ds, x.plain = true) ∧ (ds.all fun x => whole x 0 ((rs.length : Int) - 1)) = false) :
    callF (n + 8) 34 [T names, R rs, R1 r, d] = pure (.bl false) := by
  have h1 : callF (n + 7) 21 [T names, R rs, R1 r] = pure .non := s_need_rule n w h.ok
  rw [call_at]
  cases d with
  | tup ds =>
    have ha := all_whole n (names := names) (rs := rs) (r := r) (ht ds rfl).1
    rw [(ht ds rfl).2] at ha
    simp [bodies, b_is_proof, h1, ha]
  | _ => first | (simp [D.plain] at hd; done) | simp [bodies, b_is_proof, h1]
theorem whole_ok {rs : List Rule} (i : Int) : whole (.int i) 0 ((rs.length : Int) - 1) = okAt rs i := by
  show (decide (0 ≤ i) && decide (i ≤ (rs.length : Int) - 1)) = (decide (0 ≤ i) && decide (i < (rs.length : Int)))
  have : decide (i ≤ (rs.length : Int) - 1) = decide (i < (rs.length : Int)) := by
    rw [Bool.eq_iff_iff, decide_eq_true_eq, decide_eq_true_eq]
    omega
  rw [this]
theorem s_is_proof (n : Nat) {names : List Str} {rs : List Rule} {r : Rule} {is : List Int} (w : World names rs) (h : ROk names r) (hl : is.length ≤ 40) (hr : ∀ q ∈ rs, q.2.length ≤ 12) (h0 : r.1.length ≤ 12) :
    callF (n + 8) 34 [T names, R rs, R1 r, Is is] = pure (.bl (lproofB rs r is)) := by
  have hpl : ∀ x ∈ is.map D.int, x.plain = true := fun x hx => by
    obtain ⟨i, _, rfl⟩ := List.mem_map.mp hx
    rfl
  have hwh : ((is.map D.int).all fun x => whole x 0 ((rs.length : Int) - 1)) = is.all (okAt rs) := by
    rw [List.all_map]
    congr 1
    funext i
    exact whole_ok i
  by_cases hok : is.all (okAt rs) = true
  · have h1 : callF (n + 7) 21 [T names, R rs, R1 r] = pure .non := s_need_rule n w h.ok
    have ha := all_whole n (names := names) (rs := rs) (r := r) hpl
    rw [hwh, hok] at ha
    rw [call_at]
    simp [bodies, b_is_proof, h1, ha]
    apply Ev.eq
    refine Ev.bind (P := fun f => (lrun rs r.1 is = none ∧ f = .rt (.bl false)) ∨ ∃ K s5 s6, lrun rs r.1 is = some K ∧ f = .nx (Eq6 names rs r (Is is) K s5 s6))
      (forL_ev (fun xs ρ => ∃ js K s5 s6, xs = List.map D.int js ∧ ρ = Eq6 names rs r (Is is) K s5 s6 ∧ lrun rs K js = lrun rs r.1 is ∧ js.all (okAt rs) = true ∧ K.length + 12 * js.length ≤ 12 + 12 * is.length) ?_ ?_ _ _ ⟨is, r.1, .no, .no, rfl, rfl, rfl, hok, by omega⟩) ?_
    · rintro x xs ρ ⟨js, K, s5, s6, e1, rfl, e2, ho, hk⟩
      cases js with
      | nil => cases e1
      | cons j js =>
        rw [List.map_cons, List.cons.injEq] at e1
        obtain ⟨rfl, rfl⟩ := e1
        rw [List.length_cons] at hk
        rw [List.all_cons, Bool.and_eq_true] at ho
        have e3 : lrun rs K (j :: js) = if okAt rs j = true ∧ sub (ruleAt rs j.toNat).1 K = true then lrun rs (K ++ (ruleAt rs j.toNat).2) js else none := rfl
        have hj' := ho.1
        unfold okAt at hj'
        rw [Bool.and_eq_true, decide_eq_true_eq, decide_eq_true_eq] at hj'
        obtain ⟨i, rfl⟩ : ∃ i : Nat, j = i := ⟨j.toNat, by omega⟩
        have hi : i < rs.length := by omega
        have hc := all_in 6 4 (ρ := [.va (T names), .va (R rs), .va (R1 r), .va (Is is), .own (K.map D.str), .va (.int i), .no]) (A := (ruleAt rs i).1) (F := K) rfl (by simp) (by decide)
        have hx := ix_rule hi
        have hrl := hr _ (ruleAt_mem hi)
        have had : K.length + (ruleAt rs i).2.length ≤ LIM := by unfold LIM; omega
        rw [ho.1, Int.toNat_natCast] at e3
        cases hs : sub (ruleAt rs i).1 K with
        | true =>
          rw [hs, if_pos ⟨rfl, rfl⟩] at e3
          refine Ev.tnx (ρ := Eq6 names rs r (Is is) (K ++ (ruleAt rs i).2) (.va (.int i)) s6) ?_ ⟨js, _, _, _, rfl, rfl, by rw [← e2, e3], ho.2, by rw [List.length_append]; omega⟩
          simp [hx, hc, hs, had]
          rw [← List.map_append]
        | false =>
          rw [hs, if_neg (fun z => nomatch z.2)] at e3
          refine Ev.trt (d := .bl false) ?_ (.inl ⟨by rw [← e2, e3], rfl⟩)
          simp [hx, hc, hs]
    · rintro ρ ⟨js, K, s5, s6, e1, rfl, e2, ho, hk⟩
      cases js with
      | cons j js => cases e1
      | nil => exact .inr ⟨K, s5, s6, by rw [← e2]; rfl, rfl⟩
    · rintro f (⟨e, rfl⟩ | ⟨K, s5, s6, e, rfl⟩)
      · refine Ev.of (a := .bl (lproofB rs r is)) ?_ rfl
        unfold lproofB
        simp [e]
      · have hc := all_in 6 4 (ρ := [.va (T names), .va (R rs), .va (R1 r), .va (Is is), .own (K.map D.str), s5, .no]) (A := r.2) (F := K) rfl (by simp) (by decide)
        refine Ev.of (a := .bl (lproofB rs r is)) ?_ rfl
        unfold lproofB
        simp [e, hc]
  · rw [Bool.not_eq_true] at hok
    rw [lproof_eq, hok, Bool.false_and]
    exact s_is_proof_no n w h rfl fun ds e => by
      cases e
      exact ⟨hpl, by rw [hwh]; exact hok⟩
end K82
end

section
set_option Elab.async false
set_option linter.all false
set_option maxRecDepth 100000
set_option autoImplicit false
set_option maxHeartbeats 1000000
namespace K82
open PySem (Str)
open RP
/-- what a proof comes to -/
def outP : Option (List Nat) → D
  | some F => Ns F
  | none => .non
theorem rangeN (m : Nat) (h : m ≤ 1000) : range1D [.int (m : Nat)] = pure ((List.range m).map fun (i : Nat) => D.int i) := by
  show need (mid m) (pure (rangeL 0 (m : Int).toNat)) = _
  have hm : mid (m : Int) = true := by
    unfold mid
    rw [Bool.and_eq_true, decide_eq_true_eq, decide_eq_true_eq]
    omega
  rw [need_of hm, Int.toNat_natCast]
  unfold rangeL
  simp
theorem dep_ints {α : Type} (f : α → Int) (xs : List α) : (D.lst (xs.map fun x => D.int (f x))).dep ≤ 64 := by
  have := depL_map (fun x => D.int (f x)) 0 (fun _ => Nat.le_refl _) xs
  unfold D.dep; omega
theorem eqD_nats (xs : List Nat) : eqD (.lst (xs.map fun (i : Nat) => D.int i)) (.lst []) = pure (.bl xs.isEmpty) := by
  rw [eqD_nil _ (dep_ints (fun (i : Nat) => (i : Int)) xs), List.isEmpty_map]
theorem addD_Ns (F : List Nat) (i : Nat) (h : F.length + 1 ≤ LIM) : addD (Ns F) (.tup [.int i]) = pure (Ns (F ++ [i])) := by
  show fit ((F.map fun (i : Nat) => D.int i).length + 1) (pure (D.tup ((F.map fun (i : Nat) => D.int i) ++ [.int i]))) = _
  rw [List.length_map, fit_le h]
  show _ = (pure (D.tup ((F ++ [i]).map fun (i : Nat) => D.int i)) : M D)
  rw [List.map_append]
  rfl
/-! ### the law's proof -/
abbrev Elp (rs : List Rule) (r : Rule) (K : List Str) (F : List Nat) (s4 s5 s6 s7 : Sl) : Env := [.va (R rs), .va (R1 r), .va (L K), .va (Ns F), s4, s5, s6, s7]
theorem good_comp {rs : List Rule} {r : Rule} {K : List Str} {F : List Nat} {s4 s5 : Sl} {s6 : Sl} :
    compL (gName 7) (tAnd (tVal (eOp2 eqD (eLst (cComp [6] (iAny (eOp2 ixD (eOp2 ixD (eOpd 0) (eOpd 7)) (eLit (.int 0)))) (gName 6) (tVal (eOp2 notInD (eOpd 6) (eOpd 2))) (eLit (.int 1)))) (eLst (aNil)))) (tVal (eOp2 neD (eLst (cComp [6] (iAny (eOp2 ixD (eOp2 ixD (eOpd 0) (eOpd 7)) (eLit (.int 1)))) (gName 6) (tVal (eOp2 notInD (eOpd 6) (eOpd 2))) (eLit (.int 1)))) (eLst (aNil))))) (eVar 7)
      [.va (R rs), .va (R1 r), .va (L K), .va (Ns F), s4, s5, s6, .no] ((List.range rs.length).map fun (i : Nat) => D.int i) = pure ((goodL rs K).map fun (i : Nat) => D.int i) := by
  refine compL_valM (fun (i : Nat) => D.int i) (fun i => sub (ruleAt rs i).1 K && !sub (ruleAt rs i).2 K) (fun (i : Nat) => D.int i) fun i hi => ⟨_, rfl, ?_, fun _ => by simp⟩
  have hi' : i < rs.length := List.mem_range.mp hi
  have hx := ix_rule hi'
  have h1 := new_of1 6 2 (ρ := [.va (R rs), .va (R1 r), .va (L K), .va (Ns F), s4, s5, .no, .va (.int i)]) (A := (ruleAt rs i).1) (F := K) rfl (by simp) (by decide)
  have h2 := new_of1 6 2 (ρ := [.va (R rs), .va (R1 r), .va (L K), .va (Ns F), s4, s5, .no, .va (.int i)]) (A := (ruleAt rs i).2) (F := K) rfl (by simp) (by decide)
  have e1 := eqD_new1 (ruleAt rs i).1 K
  have e2 := neD_new1 (ruleAt rs i).2 K
  simp [hx, h1, h2, e1, e2]
theorem s_law_proof (n : Nat) {rs : List Rule} {r : Rule} (hl : rs.length ≤ 12) (hr : ∀ q ∈ rs, q.2.length ≤ 12) (h0 : r.1.length ≤ 12) : callF (n + 1) 49 [R rs, R1 r] = pure (outP (seek rs r.2 (rs.length + 1) r.1 [])) := by
  have hrg := rangeN (rs.length + 1) (by omega)
  have hrg2 := rangeN rs.length (by omega)
  rw [call_at]
  simp only [Int.natCast_add, Int.natCast_one] at hrg
  simp [bodies, b__law_proof, hrg]
  apply Ev.eq
  refine Ev.bind (P := fun f => (∃ d, f = .rt d ∧ d = outP (seek rs r.2 (rs.length + 1) r.1 [])) ∨ ∃ ρ, f = .nx ρ ∧ seek rs r.2 (rs.length + 1) r.1 [] = none)
    (forL_ev (fun xs ρ => ∃ K F s4 s5 s6 s7, ρ = Elp rs r K F s4 s5 s6 s7 ∧ seek rs r.2 xs.length K F = seek rs r.2 (rs.length + 1) r.1 [] ∧ K.length + 12 * xs.length ≤ 200 ∧ F.length + xs.length ≤ 20) ?_ ?_ _ _ ⟨r.1, [], .no, .no, .no, .no, rfl, by simp, by simp; omega, by simp; omega⟩) ?_
  · rintro x xs ρ ⟨K, F, s4, s5, s6, s7, rfl, e, hk, hf⟩
    rw [List.length_cons] at e hk hf
    have e3 : seek rs r.2 (xs.length + 1) K F = if sub r.2 K = true then some F else match goodL rs K with
      | [] => none
      | i :: _ => seek rs r.2 xs.length (K ++ (ruleAt rs i).2) (F ++ [i]) := rfl
    have h1 := new_of 6 2 (ρ := [.va (R rs), .va (R1 r), .va (L K), .va (Ns F), .va x, s5, .no, s7]) (A := r.2) (F := K) rfl (by simp) (by decide)
    have e1 := eqD_new r.2 K
    cases hs : sub r.2 K with
    | true =>
      rw [if_pos hs] at e3
      refine Ev.trt (d := Ns F) ?_ (.inl ⟨_, rfl, by rw [← e, e3]; rfl⟩)
      simp [h1, e1, hs]
    | false =>
      rw [if_neg (by rw [hs]; exact Bool.false_ne_true)] at e3
      have hg := good_comp (rs := rs) (r := r) (K := K) (F := F) (s4 := .va x) (s5 := s5) (s6 := s6)
      have e2 := eqD_nats (goodL rs K)
      cases hgl : goodL rs K with
      | nil =>
        rw [hgl] at e3 hg e2
        refine Ev.trt (d := .non) ?_ (.inl ⟨_, rfl, by rw [← e, e3]; rfl⟩)
        simp at e2 hg
        simp [h1, e1, hs, hrg2, hg, e2]
      | cons i t =>
        have hi : i ∈ goodL rs K := by rw [hgl]; exact List.mem_cons_self
        obtain ⟨i1, i2, i3⟩ := mem_good.mp hi
        have hx := ix_rule i1
        have hrl := hr _ (ruleAt_mem i1)
        have had := addD_L K (ruleAt rs i).2 (by unfold LIM; omega)
        have hns := addD_Ns F i (by unfold LIM; omega)
        rw [hgl] at e3 hg e2
        refine Ev.tnx (ρ := Elp rs r (K ++ (ruleAt rs i).2) (F ++ [i]) (.va x) (.va (.lst ((i :: t).map fun (i : Nat) => D.int i))) s6 s7) ?_ ⟨_, _, _, _, _, _, rfl, by rw [← e, e3], by rw [List.length_append]; omega, by rw [List.length_append]; simp; omega⟩
        simp at e2 hg
        simp [h1, e1, hs, hrg2, hg, e2, hx, had, hns]
  · rintro ρ ⟨K, F, s4, s5, s6, s7, rfl, e, hk, hf⟩
    exact .inr ⟨_, rfl, by rw [← e]; rfl⟩
  · rintro f (⟨d, rfl, rfl⟩ | ⟨ρ, rfl, e⟩)
    · exact Ev.of (by simp) rfl
    · rw [e]
      exact Ev.of (a := .non) (by simp) rfl
end K82
end

section
set_option Elab.async false
set_option linter.all false
set_option maxRecDepth 100000
set_option autoImplicit false
set_option maxHeartbeats 1000000
namespace K82
open PySem (Str)
open RP
/-! ### the program's proof -/
abbrev Epr (names : List Str) (rs : List Rule) (r : Rule) (K : List Str) (F : List Nat) (s5 s6 s7 s8 s9 s10 : Sl) : Env := [.va (T names), .va (R rs), .va (R1 r), .va (L K), .va (Ns F), s5, s6, s7, s8, s9, s10]
theorem enum_rules : ∀ (rs : List Rule) (k : Nat), enumFromD k (rs.map R1) = (List.range rs.length).map fun (i : Nat) => D.tup [.int ((k + i : Nat) : Int), R1 (ruleAt rs i)]
  | [], k => rfl
  | r :: rs, k => by
    rw [List.map_cons, List.length_cons, List.range_succ_eq_map, List.map_cons, List.map_map]
    show D.tup [.int k, R1 r] :: enumFromD (k + 1) (rs.map R1) = _
    rw [enum_rules rs (k + 1)]
    congr 1
    apply List.map_congr_left
    intro i _
    show D.tup [.int ((k + 1 + i : Nat) : Int), R1 (ruleAt rs i)] = D.tup [.int ((k + (i + 1) : Nat) : Int), R1 (ruleAt (r :: rs) (i + 1))]
    have : k + 1 + i = k + (i + 1) := by omega
    rw [this]
    rfl
def ableL (rs : List Rule) (K : List Str) : List Nat := (List.range rs.length).filter fun i => sub (ruleAt rs i).1 K
theorem able_good (rs : List Rule) (K : List Str) : (ableL rs K).filter (fun i => !sub (ruleAt rs i).2 K) = goodL rs K := by
  unfold ableL goodL
  rw [List.filter_filter]
  congr 1
  funext i
  exact Bool.and_comm _ _
theorem able_comp {names : List Str} {rs : List Rule} {r : Rule} {K : List Str} {F : List Nat} {s5 s6 s7 : Sl} :
    compL (gTup [gName 8, gTup [gName 9, gName 10]]) (tVal (eCall allD (aCons (eLst (cComp [7] (iAny (eOpd 9)) (gName 7) (tYes) (eOp2 inD (eOpd 7) (eOpd 3)))) aNil))) (eVar 8) [.va (T names), .va (R rs), .va (R1 r), .va (L K), .va (Ns F), s5, s6, s7, .no, .no, .no] (enumFromD 0 (rs.map R1))
      = pure ((ableL rs K).map fun (i : Nat) => D.int i) := by
  rw [enum_rules]
  refine compL_valM (fun (i : Nat) => D.tup [.int ((0 + i : Nat) : Int), R1 (ruleAt rs i)]) (fun i => sub (ruleAt rs i).1 K) (fun (i : Nat) => D.int i) fun i hi => ⟨_, rfl, ?_, fun _ => ?_⟩
  · have h1 := all_in 7 3 (ρ := [.va (T names), .va (R rs), .va (R1 r), .va (L K), .va (Ns F), s5, s6, .no, .va (.int ((0 + i : Nat) : Int)), .va (T (ruleAt rs i).1), .va (T (ruleAt rs i).2)]) (A := (ruleAt rs i).1) (F := K) rfl (by simp) (by decide)
    simp at h1
    simp [h1]
  · simp
theorem good_comp2 {names : List Str} {rs : List Rule} {r : Rule} {K : List Str} {F : List Nat} {s5 s6 s7 s9 s10 : Sl} :
    compL (gName 8) (tNot (tVal (eCall allD (aCons (eLst (cComp [7] (iAny (eOp2 ixD (eOp2 ixD (eOpd 1) (eOpd 8)) (eLit (.int 1)))) (gName 7) (tYes) (eOp2 inD (eOpd 7) (eOpd 3)))) aNil)))) (eVar 8) [.va (T names), .va (R rs), .va (R1 r), .va (L K), .va (Ns F), s5, s6, s7, .no, s9, s10] ((ableL rs K).map fun (i : Nat) => D.int i)
      = pure ((goodL rs K).map fun (i : Nat) => D.int i) := by
  rw [← able_good]
  refine compL_valM (fun (i : Nat) => D.int i) (fun i => !sub (ruleAt rs i).2 K) (fun (i : Nat) => D.int i) fun i hi => ⟨_, rfl, ?_, fun _ => by simp⟩
  have hi' : i < rs.length := List.mem_range.mp (List.mem_filter.mp hi).1
  have hx := ix_rule hi'
  have h1 := all_in 7 3 (ρ := [.va (T names), .va (R rs), .va (R1 r), .va (L K), .va (Ns F), s5, s6, .no, .va (.int i), s9, s10]) (A := (ruleAt rs i).2) (F := K) rfl (by simp) (by decide)
  simp [hx, h1]
theorem ix_int0 (i : Nat) (t : List Nat) : ixD (.lst ((i :: t).map fun (i : Nat) => D.int i)) (.int 0) = pure (.int i) := by simp
theorem s_proof (n : Nat) {names : List Str} {rs : List Rule} {r : Rule} (w : World names rs) (h : ROk names r) (hr : ∀ q ∈ rs, RuleOk names q) (hn : names.length ≤ 12) (hc : Closed rs (clos rs r.1)) :
    callF (n + 8) 33 [T names, R rs, R1 r] = pure (outP (seek rs r.2 (rs.length + 1) r.1 [])) := by
  have h1 : callF (n + 7) 21 [T names, R rs, R1 r] = pure .non := s_need_rule n w h.ok
  have h2 : callF (n + 7) 24 [R rs, R1 r] = pure (.bl (sub r.2 (clos rs r.1))) := s_is_settled (n + 5) h.lin hr hn
  cases hs : sub r.2 (clos rs r.1) with
  | false =>
    rw [seek_none hc hs _ _ _ fun x hx => mem_passN hx]
    rw [call_at]
    simp [bodies, b_proof, h1, h2, hs]
    rfl
  | true =>
    obtain ⟨G, hG⟩ := seek_some (F0 := r.1) (sub_iff.mp hs) (rs.length + 1) r.1 [] (fun _ hx => hx) (by have := unused_le rs r.1; omega)
    rw [hG, call_at]
    simp [bodies, b_proof, h1, h2, hs]
    apply Ev.eq
    refine Ev.bind (P := fun f => ∃ K s5 s6 s7 s8 s9 s10, f = .nx (Epr names rs r K G s5 s6 s7 s8 s9 s10))
      (whileL_ev (fun m ρ => ∃ K Kl F s5 s6 s7 s8 s9 s10, ρ = Epr names rs r K F s5 s6 s7 s8 s9 s10 ∧ (∀ x, x ∈ K ↔ x ∈ Kl) ∧ In names K ∧ seek rs r.2 m Kl F = some G ∧ F.length + m ≤ 20) ?_ FUEL (rs.length + 1) _ (by have := w.len; unfold FUEL; omega) ⟨r.1, r.1, [], .no, .no, .no, .no, .no, .no, rfl, fun _ => Iff.rfl, h.lin, hG, by have := w.len; simp; omega⟩) ?_
    · rintro m ρ ⟨K, Kl, F, s5, s6, s7, s8, s9, s10, rfl, hK, hin, hsk, hf⟩
      cases m with
      | zero => cases hsk
      | succ m =>
        have e3 : seek rs r.2 (m + 1) Kl F = if sub r.2 Kl = true then some F else match goodL rs Kl with
          | [] => none
          | i :: _ => seek rs r.2 m (Kl ++ (ruleAt rs i).2) (F ++ [i]) := rfl
        have k1 := all_in 7 3 (ρ := [.va (T names), .va (R rs), .va (R1 r), .va (L K), .va (Ns F), s5, s6, .no, s8, s9, s10]) (A := r.2) (F := K) rfl (by simp) (by decide)
        have esub : sub r.2 K = sub r.2 Kl := sub_congr hK
        cases hg : sub r.2 K with
        | true =>
          rw [← esub, hg, if_pos rfl] at e3
          have : F = G := by rw [e3] at hsk; exact Option.some.inj hsk
          subst this
          exact .inr ⟨by simp [k1, hg], _, _, _, _, _, _, _, rfl⟩
        | false =>
          rw [← esub, hg, if_neg Bool.false_ne_true, ← goodL_congr hK] at e3
          refine .inl ⟨by simp [k1, hg], ?_⟩
          have k2 := able_comp (names := names) (rs := rs) (r := r) (K := K) (F := F) (s5 := s5) (s6 := s6) (s7 := s7)
          have k3 := good_comp2 (names := names) (rs := rs) (r := r) (K := K) (F := F) (s5 := .va (.lst ((ableL rs K).map fun (i : Nat) => D.int i))) (s6 := s6) (s7 := s7) (s9 := s9) (s10 := s10)
          cases hgl : goodL rs K with
          | nil => rw [hgl] at e3; rw [e3] at hsk; cases hsk
          | cons i t =>
            rw [hgl] at e3 k3
            have hi : i ∈ goodL rs K := by rw [hgl]; exact List.mem_cons_self
            obtain ⟨i1, i2, i3⟩ := mem_good.mp hi
            have hx := ix_rule i1
            have hrok := hr _ (ruleAt_mem i1)
            have hlen := hin.len
            have hlen2 : (newOf (ruleAt rs i).2 K).length ≤ names.length := nodup_len (hrok.rnd.filter _) fun x hx => hrok.r x (mem_newOf.mp hx).1
            have k4 := new_of 7 3 (ρ := [.va (T names), .va (R rs), .va (R1 r), .va (L K), .va (Ns F), .va (.lst ((ableL rs K).map fun (i : Nat) => D.int i)), .va (.lst ((i :: t).map fun (i : Nat) => D.int i)), .no, s8, s9, s10]) (A := (ruleAt rs i).2) (F := K) rfl (by simp) (by decide)
            have k5 := addD_L K (newOf (ruleAt rs i).2 K) (by unfold LIM; omega)
            have k6 := addD_Ns F i (by unfold LIM; omega)
            have hmem : ∀ x, x ∈ K ++ newOf (ruleAt rs i).2 K ↔ x ∈ Kl ++ (ruleAt rs i).2 := fun x => by
              rw [List.mem_append, List.mem_append, mem_newOf, ← hK x]
              by_cases hx : x ∈ K
              · simp [hx]
              · simp [hx]
            have hin2 : In names (K ++ newOf (ruleAt rs i).2 K) := by
              have := hin.step hrok
              unfold step at this
              rwa [if_pos i2] at this
            refine Ev.tnx (ρ := Epr names rs r (K ++ newOf (ruleAt rs i).2 K) (F ++ [i]) (.va (.lst ((ableL rs K).map fun (i : Nat) => D.int i))) (.va (.lst ((i :: t).map fun (i : Nat) => D.int i))) s7 s8 s9 s10) ?_
              ⟨m, Nat.lt_succ_self m, _, Kl ++ (ruleAt rs i).2, _, _, _, _, _, _, _, rfl, hmem, hin2, by rw [e3] at hsk; exact hsk, by rw [List.length_append]; simp; omega⟩
            simp at k3 k4
            have en : enumD [R rs] = pure (enumFromD 0 (rs.map R1)) := rfl
            simp [en, k2, k3, k4, k5, k6, hx]
    · rintro f ⟨K, s5, s6, s7, s8, s9, s10, rfl⟩
      exact Ev.of (a := outP (some G)) (by simp; rfl) rfl
end K82
end

section
set_option Elab.async false
set_option linter.all false
set_option maxRecDepth 100000
set_option autoImplicit false
set_option maxHeartbeats 1000000
namespace K82
open PySem (Str)
open RP
/-! ### draws -/
def Cup (cs : Cells) : Prop := ∃ a b : Int, cs = [[.int a, .int b]] ∧ 0 ≤ a ∧ 0 ≤ b ∧ b < 1099511627776
theorem g0 (x y : D) : ixD (.obj 0) (.int 0) [[x, y]] = .ok x [[x, y]] := rfl
theorem g1 (x y : D) : ixD (.obj 0) (.int 1) [[x, y]] = .ok y [[x, y]] := rfl
theorem p0 (x y v : D) : putD (.obj 0) (.int 0) v [[x, y]] = .ok () [[v, y]] := rfl
theorem p1 (x y v : D) : putD (.obj 0) (.int 1) v [[x, y]] = .ok () [[x, v]] := rfl
theorem modD_int {i j : Int} (h : 0 < j) : modD (.int i) (.int j) = pure (.int (i % j)) := by
  show need (decide (0 < j)) (pure (D.int (i % j))) = _
  rw [need_of (decide_eq_true h)]
theorem fdivD_int {i j : Int} (h : 0 < j) (h2 : j < 1073741824) : fdivD (.int i) (.int j) = pure (.int (i / j)) := by
  show need (decide (0 < j) && decide (j < 1073741824)) (pure (D.int (i / j))) = _
  rw [need_of (by rw [decide_eq_true h, decide_eq_true h2]; rfl)]
theorem mulD_r {i j : Int} (h : small64 j = true) : mulD (.int i) (.int j) = pure (.int (i * j)) := by
  show need (small64 i || small64 j) (pure (D.int (i * j))) = _
  rw [need_of (by rw [h, Bool.or_true])]
theorem mulD_l {i j : Int} (h : small64 i = true) : mulD (.int i) (.int j) = pure (.int (i * j)) := by
  show need (small64 i || small64 j) (pure (D.int (i * j))) = _
  rw [need_of (by rw [h, Bool.true_or])]
theorem s_roll (n : Nat) {m : Int} (h0 : 0 < m) (h1 : m < 1073741824) : Tr Cup (callF (n + 1) 38 [.obj 0, .int m]) fun d => ∃ r : Int, d = .int r ∧ 0 ≤ r ∧ r < m := by
  rintro cs ⟨a, b, rfl, ha, hb, hb2⟩
  rw [call_at]
  simp [bodies, b__law_roll]
  rw [M.bind_ok (g0 _ _)]
  by_cases h : 0 < a
  · simp [h]
    rw [M.bind_ok (g0 _ _)]
    simp [modD_int h0]
    rw [M.bind_ok (g0 _ _)]
    simp [fdivD_int h0 h1]
    rw [M.bind_ok (p0 _ _ _)]
    exact ⟨_, _, rfl, ⟨a / m, b, rfl, Int.ediv_nonneg ha (by omega), hb, hb2⟩, a % m, rfl, Int.emod_nonneg a (by omega), Int.emod_lt_of_pos a h0⟩
  · simp [h]
    rw [M.bind_ok (g1 _ _)]
    have e1 : mulD (.int b) (.int 30931) = pure (.int (b * 30931)) := mulD_r (by decide)
    simp [e1, modD_int (i := b * 30931 + 7907) (j := 2147483399) (by decide)]
    rw [M.bind_ok (p1 _ _ _)]
    rw [M.bind_ok (g1 _ _)]
    rw [M.bind_ok (g1 _ _)]
    have hc0 := Int.emod_nonneg (b * 30931 + 7907) (b := 2147483399) (by decide)
    have hc1 := Int.emod_lt_of_pos (b * 30931 + 7907) (b := 2147483399) (by decide)
    have e2 : ∀ y : Int, mulD (.int ((b * 30931 + 7907) % 2147483399)) (.int y) = pure (.int ((b * 30931 + 7907) % 2147483399 * y)) := fun y => mulD_l (by
      unfold small64
      rw [Bool.and_eq_true, decide_eq_true_eq, decide_eq_true_eq]
      omega)
    simp [e2, modD_int (i := (b * 30931 + 7907) % 2147483399 * ((b * 30931 + 7907) % 2147483399 + 251)) (j := 2147483563) (by decide), fdivD_int (i := (b * 30931 + 7907) % 2147483399 * ((b * 30931 + 7907) % 2147483399 + 251) % 2147483563) (j := 829) (by decide) (by decide), modD_int h0]
    exact ⟨_, _, rfl, ⟨a, (b * 30931 + 7907) % 2147483399, rfl, ha, hc0, by omega⟩, _, rfl, Int.emod_nonneg _ (by omega), Int.emod_lt_of_pos _ h0⟩
/-- one of some things -/
theorem s_some (n : Nat) {xs : List D} (h : xs ≠ []) (hl : xs.length < 1073741824) : Tr Cup (callF (n + 2) 39 [.obj 0, .tup xs]) fun d => d ∈ xs := by
  have hpos : 0 < xs.length := List.length_pos_iff.mpr h
  rw [call_at]
  simp [bodies, b__law_some]
  refine Tr.bind (s_roll n (m := xs.length) (by omega) (by omega)) ?_
  rintro d ⟨r, rfl, h0, h1⟩
  obtain ⟨i, rfl⟩ : ∃ i : Nat, r = i := ⟨r.toNat, by omega⟩
  have hi : i < xs.length := by omega
  refine Tr.of (a := xs[i]) ?_ (List.getElem_mem hi)
  simp [atI_nat, hi]
def allNames : List (List Str) := [["a"], ["a", "b"], ["a", "b", "c"], ["a", "b", "c", "d"], ["a", "b", "c", "d", "e2"], ["a", "b", "c", "d", "e2", "f"]]
theorem s_names (n : Nat) : Tr Cup (callF (n + 2) 41 [.obj 0, .int 6]) fun d => ∃ names : List Str, d = T names ∧ names ∈ allNames := by
  rw [call_at]
  simp [bodies, b__law_names]
  refine Tr.bind (s_roll n (m := 6) (by decide) (by decide)) ?_
  rintro d ⟨r, rfl, h0, h1⟩
  have hr : r = 0 ∨ r = 1 ∨ r = 2 ∨ r = 3 ∨ r = 4 ∨ r = 5 := by omega
  rcases hr with rfl | rfl | rfl | rfl | rfl | rfl
  · exact Tr.of (a := T ["a"]) rfl ⟨["a"], rfl, by simp [allNames]⟩
  · exact Tr.of (a := T ["a", "b"]) rfl ⟨["a", "b"], rfl, by simp [allNames]⟩
  · exact Tr.of (a := T ["a", "b", "c"]) rfl ⟨["a", "b", "c"], rfl, by simp [allNames]⟩
  · exact Tr.of (a := T ["a", "b", "c", "d"]) rfl ⟨["a", "b", "c", "d"], rfl, by simp [allNames]⟩
  · exact Tr.of (a := T ["a", "b", "c", "d", "e2"]) rfl ⟨["a", "b", "c", "d", "e2"], rfl, by simp [allNames]⟩
  · exact Tr.of (a := T ["a", "b", "c", "d", "e2", "f"]) rfl ⟨["a", "b", "c", "d", "e2", "f"], rfl, by simp [allNames]⟩
/-! ### rows drawn -/
theorem comp_drawn {g : GF} {t : TF} {e : EF} {ρ : Env} {S : Cells → Prop} : ∀ (ss : List Str), (∀ x ∈ ss, ∃ ρ1, g (.str x) ρ = pure ρ1 ∧ Tr S (t ρ1) (fun _ => True) ∧ e ρ1 = pure (.str x)) → Tr S (compL g t e ρ (ss.map D.str)) fun ds => ∃ zs : List Str, ds = zs.map D.str ∧ zs.Sublist ss
  | [], _ => Tr.of (a := []) rfl ⟨[], rfl, .slnil⟩
  | x :: ss, h => by
    obtain ⟨ρ1, h1, h2, h3⟩ := h x List.mem_cons_self
    have ih := comp_drawn (g := g) (t := t) (e := e) (ρ := ρ) (S := S) ss fun y hy => h y (List.mem_cons_of_mem _ hy)
    show Tr S (g (.str x) ρ >>= fun ρ1 => t ρ1 >>= fun c => if c = true then e ρ1 >>= fun y => compL g t e ρ (ss.map D.str) >>= fun ys => pure (y :: ys) else compL g t e ρ (ss.map D.str)) _
    rw [h1, M.pureb']
    refine Tr.bind h2 fun c _ => ?_
    cases c with
    | true =>
      rw [if_pos rfl, h3, M.pureb']
      refine Tr.bind ih ?_
      rintro ds ⟨zs, rfl, hz⟩
      exact Tr.pure ⟨x :: zs, rfl, hz.cons₂ x⟩
    | false =>
      rw [if_neg (fun z => nomatch z)]
      refine ih.mono ?_
      rintro ds ⟨zs, rfl, hz⟩
      exact ⟨zs, rfl, hz.cons x⟩
/-- a part of the names -/
def Part (names : List Str) (least : Nat) (d : D) : Prop := ∃ A : List Str, d = T A ∧ A.Sublist names ∧ least ≤ A.length
theorem s_part (n : Nat) {names : List Str} {least : Nat} (h : names ≠ []) (hl : names.length ≤ 12) (h1 : least ≤ 1) : Tr Cup (callF (n + 3) 42 [.obj 0, T names, .int least]) (Part names least) := by
  have hc := comp_drawn (S := Cup) (g := gName 4) (t := tVal (eOp2 ltD (eCall (callF (n + 2) 38) (aCons (eVar 0) (aCons (eLit (.int 5)) (aNil)))) (eLit (.int 2)))) (e := eVar 4) (ρ := [.va (.obj 0), .va (T names), .va (.int least), .no, .no]) names fun x _ => ⟨_, rfl, by
    simp
    refine Tr.bind (s_roll (n + 1) (m := 5) (by decide) (by decide)) ?_
    rintro d ⟨r, rfl, _⟩
    exact Tr.of (by simp; rfl) trivial, by simp⟩
  have hs := s_some n (xs := names.map D.str) (by simpa using h) (by rw [List.length_map]; omega)
  rw [call_at]
  simp [bodies, b__law_part]
  refine Tr.bind hc ?_
  rintro ds ⟨zs, rfl, hz⟩
  by_cases hb : least ≤ zs.length
  · exact Tr.of (a := T zs) (by simp [hb]) ⟨zs, rfl, hz, hb⟩
  · simp [hb]
    refine Tr.bind hs ?_
    rintro d hd
    obtain ⟨x, hx, rfl⟩ := List.mem_map.mp hd
    exact Tr.of (a := T [x]) rfl ⟨[x], rfl, List.singleton_sublist.mpr hx, h1⟩
theorem comp_each {g : GF} {e : EF} {ρ : Env} {S : Cells → Prop} {Q : D → Prop} : ∀ (xs : List D), (∀ x ∈ xs, ∃ ρ1, g x ρ = pure ρ1 ∧ Tr S (e ρ1) Q) → Tr S (compL g tYes e ρ xs) fun ds => ds.length = xs.length ∧ ∀ d ∈ ds, Q d
  | [], _ => Tr.of (a := []) rfl ⟨rfl, fun _ h => by cases h⟩
  | x :: xs, h => by
    obtain ⟨ρ1, h1, h2⟩ := h x List.mem_cons_self
    have ih := comp_each (g := g) (e := e) (ρ := ρ) (S := S) (Q := Q) xs fun y hy => h y (List.mem_cons_of_mem _ hy)
    show Tr S (g x ρ >>= fun ρ1 => tYes ρ1 >>= fun c => if c = true then e ρ1 >>= fun y => compL g tYes e ρ xs >>= fun ys => pure (y :: ys) else compL g tYes e ρ xs) _
    rw [h1, M.pureb', tYes_ev, M.pureb', if_pos rfl]
    refine Tr.bind h2 fun y hy => Tr.bind ih ?_
    rintro ys ⟨hl, hq⟩
    refine Tr.pure ⟨by rw [List.length_cons, List.length_cons, hl], fun d hd => ?_⟩
    rcases List.mem_cons.mp hd with rfl | hd
    · exact hy
    · exact hq d hd
/-- a rule drawn -/
def DrawnR (names : List Str) (r : Rule) : Prop := r.1.Sublist names ∧ r.2.Sublist names ∧ 1 ≤ r.2.length
theorem rules_of {names : List Str} : ∀ {ds : List D}, (∀ d ∈ ds, ∃ r, d = R1 r ∧ DrawnR names r) → ∃ rs : List Rule, ds = rs.map R1 ∧ ∀ r ∈ rs, DrawnR names r
  | [], _ => ⟨[], rfl, fun _ h => by cases h⟩
  | d :: ds, h => by
    obtain ⟨r, rfl, hr⟩ := h _ List.mem_cons_self
    obtain ⟨rs, rfl, hrs⟩ := rules_of fun x hx => h x (List.mem_cons_of_mem _ hx)
    refine ⟨r :: rs, rfl, fun q hq => ?_⟩
    rcases List.mem_cons.mp hq with rfl | hq
    · exact hr
    · exact hrs q hq
def RuleD (names : List Str) (d : D) : Prop := ∃ r, d = R1 r ∧ DrawnR names r
def RulesD (names : List Str) (d : D) : Prop := ∃ rs : List Rule, d = R rs ∧ rs.length ≤ 6 ∧ ∀ r ∈ rs, DrawnR names r
theorem s_rules (n : Nat) {names : List Str} (h : names ≠ []) (hl : names.length ≤ 12) : Tr Cup (callF (n + 4) 43 [.obj 0, T names, .int 6]) (RulesD names) := by
  have hp0 := s_part n (least := 0) h hl (by decide)
  have hp1 := s_part n (least := 1) h hl (by decide)
  rw [call_at]
  simp [bodies, b__law_rules]
  refine Tr.bind (s_roll (n + 2) (m := 7) (by decide) (by decide)) ?_
  rintro d ⟨r, rfl, h0, h1⟩
  obtain ⟨k, rfl⟩ : ∃ k : Nat, r = k := ⟨r.toNat, by omega⟩
  rw [rangeN k (by omega), M.pureb']
  refine Tr.bind (comp_each (Q := RuleD names) _ fun x hx => ⟨_, rfl, ?_⟩) ?_
  · simp
    refine Tr.bind (s_roll (n + 2) (m := 7) (by decide) (by decide)) ?_
    rintro d ⟨r, rfl, h0, h1⟩
    simp
    by_cases hr : 0 < r
    · simp [hr]
      refine Tr.bind hp0 ?_
      rintro d ⟨A, rfl, hA, _⟩
      refine Tr.bind hp1 ?_
      rintro d ⟨B, rfl, hB, hB1⟩
      exact Tr.of (a := R1 (A, B)) rfl ⟨(A, B), rfl, hA, hB, hB1⟩
    · simp [hr]
      refine Tr.bind hp1 ?_
      rintro d ⟨B, rfl, hB, hB1⟩
      exact Tr.of (a := R1 ([], B)) rfl ⟨([], B), rfl, List.nil_sublist _, hB, hB1⟩
  · rintro ds ⟨hlen, hq⟩
    obtain ⟨rs, rfl, hrs⟩ := rules_of hq
    rw [List.length_map, List.length_map, List.length_range] at hlen
    exact Tr.of (a := R rs) (by simp) ⟨rs, rfl, by omega, hrs⟩
end K82
end

section
set_option Elab.async false
set_option linter.all false
set_option maxRecDepth 100000
set_option autoImplicit false
set_option maxHeartbeats 1000000
namespace K82
open PySem (Str)
open RP
/-! ### like values -/
def niceN : Nat → D → Bool
  | _, .non => true
  | _, .bl _ => true
  | _, .int _ => true
  | _, .str _ => true
  | n + 1, .tup xs => decide (xs.length ≤ 1000) && xs.all (niceN n)
  | _, _ => false
theorem s_same : ∀ (n m : Nat) (d : D), niceN n d = true → callF (n + m + 1) 40 [d, d] = pure (.bl true)
  | n, m, .non, _ => by rw [call_at]; simp [bodies, b__law_same]
  | n, m, .bl b, _ => by rw [call_at]; cases b <;> simp [bodies, b__law_same]
  | n, m, .int i, _ => by rw [call_at]; simp [bodies, b__law_same, eqD_int]
  | n, m, .str s, _ => by
    have : strD [.str s] = pure (.str s) := rfl
    rw [call_at]; simp [bodies, b__law_same, eqD_str, this]
  | n + 1, m, .tup xs, h => by
    have h' : (decide (xs.length ≤ 1000) && xs.all (niceN n)) = true := h
    rw [Bool.and_eq_true, decide_eq_true_eq, List.all_eq_true] at h'
    have hr := rangeN xs.length h'.1
    have ha := all_compM (g := gName 2) (e := eCall (callF (n + m + 1) 40) (aCons (eOp2 ixD (eOpd 0) (eOpd 2)) (aCons (eOp2 ixD (eOpd 1) (eOpd 2)) (aNil)))) (ρ := [.va (.tup xs), .va (.tup xs), .no]) (fun (i : Nat) => D.int i) (fun _ => true) (xs := List.range xs.length) fun i hi => ⟨_, rfl, by
      have hi' : i < xs.length := List.mem_range.mp hi
      have := s_same n m xs[i] (h'.2 _ (List.getElem_mem hi'))
      have hx : ixD (.tup xs) (.int (i : Nat)) = pure xs[i] := by rw [ixD_tup, atI_nat, List.getElem?_eq_getElem hi']; rfl
      rw [eCall_ev, aCons_ev, aCons_ev, aNil_ev, eOp2_ev, eOp2_ev]
      simp only [List.set_cons_succ, List.set_cons_zero, eOpd_0, eOpd_s, M.pureb', M.assoc', hx, this]⟩
    have hb : ((List.range xs.length).all fun _ => true) = true := List.all_eq_true.mpr fun _ _ => rfl
    rw [hb] at ha
    have he := neD_int xs.length xs.length
    rw [beq_self_eq_true] at he
    have e : n + 1 + m + 1 = (n + m + 1) + 1 := by omega
    rw [e, call_at]
    simp [bodies, b__law_same, he, hr, ha]
  | n, _, .lst _, h => by cases n <;> simp [niceN] at h
  | n, _, .dct _ _, h => by cases n <;> simp [niceN] at h
  | n, _, .scr _, h => by cases n <;> simp [niceN] at h
  | n, _, .obj _, h => by cases n <;> simp [niceN] at h
  | 0, _, .tup _, h => by simp [niceN] at h
/-! ### the law's documents -/
theorem s_doc_of (n : Nat) {names : List Str} {val : Str → Int} {vs : D} (hl : names.length ≤ 12) (hv : ∀ (i : Nat) (h : i < names.length), ixD vs (.int (i : Nat)) = pure (.int (val names[i]))) : callF (n + 1) 45 [T names, vs] = pure (Dc names val) := by
  have hr := rangeN names.length (by omega)
  have hc := compL_mapM (g := gName 2) (e := eTup (aCons (eOp2 ixD (eOpd 0) (eOpd 2)) (aCons (eOp2 ixD (eOpd 1) (eOpd 2)) (aNil)))) (ρ := [.va (T names), .va vs, .no]) (fun (i : Nat) => D.int i) (fun (i : Nat) => D.tup [.str (names.getD i Str.empty), .int (val (names.getD i Str.empty))]) (xs := List.range names.length) fun i hi => ⟨_, rfl, by
    have hi' : i < names.length := List.mem_range.mp hi
    have h1 : ixD (T names) (.int (i : Nat)) = pure (.str names[i]) := by rw [ixD_tup, atI_nat, List.getElem?_map, List.getElem?_eq_getElem hi']; rfl
    have h2 := hv i hi'
    have h3 : names.getD i Str.empty = names[i] := by rw [List.getD_eq_getElem?_getD, List.getElem?_eq_getElem hi']; rfl
    simp [h1, h2, List.getElem?_eq_getElem hi']⟩
  have hm : ((List.range names.length).map fun (i : Nat) => D.tup [.str (names.getD i Str.empty), .int (val (names.getD i Str.empty))]) = Fs names val := by
    apply List.ext_getElem?
    intro i
    rw [List.getElem?_map, List.getElem?_map]
    by_cases hi : i < names.length
    · rw [List.getElem?_range hi, List.getElem?_eq_getElem hi]
      have h3 : names.getD i Str.empty = names[i] := by rw [List.getD_eq_getElem?_getD, List.getElem?_eq_getElem hi]; rfl
      simp only [Option.map_some, h3]
    · rw [List.getElem?_eq_none (by rw [List.length_range]; omega), List.getElem?_eq_none (by omega)]; rfl
  rw [hm] at hc
  rw [call_at]
  simp [bodies, b__law_doc_of, hr, hc]
theorem ix_map {names : List Str} {val : Str → Int} (i : Nat) (h : i < names.length) : ixD (.tup (names.map fun x => .int (val x))) (.int (i : Nat)) = pure (.int (val names[i])) := by
  rw [ixD_tup, atI_nat, List.getElem?_map, List.getElem?_eq_getElem h]; rfl
theorem ix_mapL {names : List Str} {val : Str → Int} (i : Nat) (h : i < names.length) : ixD (.lst (names.map fun x => .int (val x))) (.int (i : Nat)) = pure (.int (val names[i])) := by
  rw [ixD_lst, atI_nat, List.getElem?_map, List.getElem?_eq_getElem h]; rfl
/-! ### the cup -/
theorem s_cup (n : Nat) {ns : List Int} (h : ns.length ≤ 63) : ∃ cs', callF (n + 1) 37 [.scr (ns.map D.int)] [] = .ok (.obj 0) cs' ∧ Cup cs' := by
  obtain ⟨X, c, had, hc⟩ : ∃ (X : List D) (c : Int), addD (.lst (ns.map D.int)) (.lst [.int 0]) = pure (.lst X) ∧ ixD (.lst X) (.int 0) = pure (.int c) := by
    refine ⟨(ns ++ [0]).map D.int, (ns ++ [0]).headD 0, ?_, ?_⟩
    · show fit ((ns.map D.int).length + 1) (pure (D.lst (ns.map D.int ++ [.int 0]))) = _
      rw [List.length_map, fit_le (by unfold LIM; omega)]
      simp
    · cases ns with
      | nil => simp
      | cons x r => simp
  have hp : powD (.int 10) (.int 18) = pure (.int 1000000000000000000) := rfl
  have hab : (0 : Int) ≤ (if c < 0 then -c else c) := by split <;> omega
  have hm : ∀ x : Int, mulD (.int x) (.int 337) = pure (.int (x * 337)) := fun x => mulD_r (by decide)
  have hd : ∀ x : Int, fdivD (.int x) (.int 97) = pure (.int (x / 97)) := fun x => fdivD_int (by decide) (by decide)
  have hmo : ∀ x : Int, modD (.int x) (.int 2077500973) = pure (.int (x % 2077500973)) := fun x => modD_int (by decide)
  have eN : ∀ (as : AF) (ρ : Env) (xs : List D), as ρ = pure xs → eNew as ρ [] = .ok (.obj 0) [xs] := fun as ρ xs e => by
    unfold eNew
    rw [e]
    rfl
  rw [call_at]
  simp only [bodies, b__law_cup, runB_1, List.replicate, sSeq_ev, sSet_ev, xVal_ev, eCall_ev, aCons_ev, aNil_ev, eOp2_ev, eLst_ev, lCall_ev, eOpd_0, eOpd_s, eLit_ev, M.pureb', M.assoc', listD_ev, asSeq_scr, had, hc, absD_int, thenF_nx, List.set_cons_succ, List.set_cons_zero, sRet_ev]
  generalize hx : (if c < 0 then -c else c) = a at hab ⊢
  by_cases h18 : (1000000000000000000 : Int) ≤ a
  · rw [M.bind_ok (eN _ _ [.int (a / 97), .int ((a * 337 + 4051) % 2077500973 + 179)] (by simp [hp, hm, hd, hmo, h18]))]
    exact ⟨_, rfl, a / 97, _, rfl, Int.ediv_nonneg hab (by decide), by omega, by omega⟩
  · rw [M.bind_ok (eN _ _ [.int 0, .int ((a * 337 + 4051) % 2077500973 + 179)] (by simp [hp, hm, hd, hmo, h18]))]
    exact ⟨_, rfl, 0, _, rfl, Int.le_refl _, by omega, by omega⟩
end K82
end

section
set_option Elab.async false
set_option linter.all false
set_option maxRecDepth 100000
set_option autoImplicit false
set_option maxHeartbeats 1000000
namespace K82
open PySem (Str)
open RP
/-! ### odd values -/
def one : D := T ["a"]
def far : D := T ["zz"]
def bads : List D := [.non, .tup [one], .lst [one, one], .tup [one, .tup []], .tup [one, one, one], .tup [far, one], .tup [one, far], .tup [one, .lst [.str "a"]], .tup [.lst [.str "a"], one], .tup [.tup [.str "a", .str "a"], one], .tup [one, .tup [.str "a", .str "a"]], .tup [.non, one], .tup [one, .str "a"]]
theorem bad_no (n : Nat) : ∀ names ∈ allNames, ∀ b ∈ bads, callF (n + 4) 16 [T names, b] = pure (.bl false) := by
  intro names hn b hb
  simp only [allNames, List.mem_cons, List.not_mem_nil, or_false] at hn
  simp only [bads, List.mem_cons, List.not_mem_nil, or_false] at hb
  rcases hn with rfl | rfl | rfl | rfl | rfl | rfl <;> rcases hb with rfl | rfl | rfl | rfl | rfl | rfl | rfl | rfl | rfl | rfl | rfl | rfl | rfl <;> rfl
theorem nm_ok : ∀ names ∈ allNames, okNames names 1 = true := by
  intro names hn
  simp only [allNames, List.mem_cons, List.not_mem_nil, or_false] at hn
  rcases hn with rfl | rfl | rfl | rfl | rfl | rfl <;> decide +kernel
theorem s_fits_bad (n : Nat) {names : List Str} {rs : List Rule} {b : D} (hn : names ∈ allNames) (hb : b ∈ bads) (hl : rs.length ≤ 3) (h : ∀ r ∈ rs, okRule names r) : callF (n + 5) 17 [T names, .tup (rs.map R1 ++ [b])] = pure (.bl false) := by
  have k1 : callF (n + 4) 1 [.tup (rs.map R1 ++ [b]), .int 0, .int 12] = pure (.bl true) := by
    rw [s_is_tuple_of (n + 3) _ 0 12 rfl]
    have : (rs.length : Int) + 1 ≤ 12 := by omega
    have h0 : (0 : Int) ≤ (rs.length : Int) + 1 := by omega
    simp [tupleOf, this, h0]
  have hb2 := bad_no n names hn b hb
  have ha := all_compM (g := gName 2) (e := eCall (callF (n + 4) 16) (aCons (eVar 0) (aCons (eVar 2) aNil))) (ρ := [Sl.va (T names), Sl.va (.tup (rs.map R1 ++ [b])), Sl.no]) (fun (p : D × Bool) => p.1) (fun p => p.2) (xs := (rs.map fun r => (R1 r, true)) ++ [(b, false)]) fun p hp => ⟨_, rfl, by
    rcases List.mem_append.mp hp with hp | hp
    · obtain ⟨r, hr, rfl⟩ := List.mem_map.mp hp
      have := s_fits_rule n (h r hr)
      simp [this]
    · rw [List.mem_singleton.mp hp]
      simp [hb2]⟩
  have e1 : ((rs.map fun r => (R1 r, true)) ++ [(b, false)]).map (fun (p : D × Bool) => p.1) = rs.map R1 ++ [b] := by
    rw [List.map_append, List.map_map]; rfl
  have e2 : ((rs.map fun r => (R1 r, true)) ++ [(b, false)]).all (fun (p : D × Bool) => p.2) = false := by
    rw [List.all_append]; simp
  rw [e1, e2] at ha
  rw [call_at]
  simp [bodies, b_fits_rules, k1, ha]
theorem s_are_rules (n : Nat) {names : List Str} {v : D} {c : Bool} (hn : names ∈ allNames) (h : callF (n + 5) 17 [T names, v] = pure (.bl c)) : callF (n + 6) 30 [T names, v] = pure (.bl c) := by
  have h1 : callF (n + 5) 19 [T names] = pure .non := s_need_names (n + 2) (nm_ok names hn)
  rw [call_at]
  simp [bodies, b_are_rules, h1, h]
def odds1 (names : List Str) : List D := [.non, .tup [], L names, .tup (names.map D.str ++ (names.map D.str).take 1), .tup [.str "b", .str "a"], .tup [.str "A"], .tup [.str "a", .int 1], .str "ab", .tup [.str "a0", .str "a1", .str "a2", .str "a3", .str "a4", .str "a5", .str "a6", .str "a7", .str "a8"], .tup [.non]]
theorem odds1_no (n : Nat) : ∀ names ∈ allNames, ∀ d ∈ odds1 names, callF (n + 4) 29 [d] = pure (.bl false) := by
  intro names hn b hb
  simp only [allNames, List.mem_cons, List.not_mem_nil, or_false] at hn
  rcases hn with rfl | rfl | rfl | rfl | rfl | rfl <;> (simp only [odds1, List.mem_cons, List.not_mem_nil, or_false] at hb; rcases hb with rfl | rfl | rfl | rfl | rfl | rfl | rfl | rfl | rfl | rfl <;> rfl)
theorem eight (n : Nat) : callF (n + 4) 29 [.tup [.str "a0", .str "a1", .str "a2", .str "a3", .str "a4", .str "a5", .str "a6", .str "a7"]] = pure (.bl true) := by rfl
/-- nothing is picked -/
theorem comp_none {g : GF} {t : TF} {e : EF} {ρ : Env} {xs : List D} (h : ∀ x ∈ xs, ∃ ρ1, g x ρ = pure ρ1 ∧ t ρ1 = pure false) : compL g t e ρ xs = pure [] := by
  have := compL_val (g := g) (t := t) (e := e) (ρ := ρ) (fun _ => false) (fun _ => .non) (xs := xs) fun x hx => let ⟨ρ1, h1, h2⟩ := h x hx; ⟨ρ1, h1, h2, fun z => nomatch z⟩
  rw [this]
  have : xs.filter (fun _ => false) = [] := List.filter_eq_nil_iff.mpr fun _ _ => Bool.false_ne_true
  rw [this]; rfl
def odds2 (rs : List Rule) : List D := [.non, .lst (rs.map R1), .tup [one, one], .tup ((List.replicate 13 [D.tup [one, one]]).flatten), .int 5] ++ bads.map fun b => .tup ((rs.take 3).map R1 ++ [b])
theorem odds2_no (n : Nat) {names : List Str} {rs : List Rule} (hn : names ∈ allNames) (h : ∀ r ∈ rs, okRule names r) : ∀ d ∈ odds2 rs, callF (n + 6) 30 [T names, d] = pure (.bl false) := by
  intro d hd
  refine s_are_rules n hn ?_
  rcases List.mem_append.mp hd with hd | hd
  · simp only [List.mem_cons, List.not_mem_nil, or_false] at hd
    have hl : callF (n + 5) 17 [T names, .lst (rs.map R1)] = pure (.bl false) := by
      have k1 : callF (n + 4) 1 [.lst (rs.map R1), .int 0, .int 12] = pure (.bl false) := by rw [s_is_tuple_of (n + 3) _ 0 12 rfl]; rfl
      rw [call_at]
      simp [bodies, b_fits_rules, k1]
    have hoo : callF (n + 5) 17 [T names, .tup [one, one]] = pure (.bl false) := by
      simp only [allNames, List.mem_cons, List.not_mem_nil, or_false] at hn
      rcases hn with rfl | rfl | rfl | rfl | rfl | rfl <;> rfl
    rcases hd with rfl | rfl | rfl | rfl | rfl
    · rfl
    · exact hl
    · exact hoo
    · rfl
    · rfl
  · obtain ⟨b, hb, rfl⟩ := List.mem_map.mp hd
    exact s_fits_bad n hn hb (by rw [List.length_take]; omega) fun r hr => h r (List.mem_of_mem_take hr)
end K82
end

section
set_option Elab.async false
set_option linter.all false
set_option maxRecDepth 100000
set_option autoImplicit false
set_option maxHeartbeats 1000000
namespace K82
open PySem (Str)
open RP
theorem isNot_ff : isNotBlD (.bl false) (.bl false) = pure (.bl false) := rfl
theorem odds_comp (n i : Nat) {ρ : Env} {xs : List D} {k : Nat} (hk : 7 < ρ.length) (h : ∀ x ∈ xs, callF n i [x] = pure (.bl false)) :
    compL (gName 7) (tVal (eOp2 isNotBlD (eCall (callF n i) (aCons (eVar 7) (aNil))) (eLit (.bl false)))) (eVar 7) ρ xs = pure [] :=
  comp_none fun x hx => ⟨_, rfl, by
    rw [tVal_ev, eOp2_ev, eCall_ev, aCons_ev, var_self hk, M.pureb', aNil_ev, M.pureb', M.pureb', h x hx]; rfl⟩
theorem odds_comp2 (n i : Nat) {ρ : Env} {xs : List D} {k : Nat} {d : D} (hk : 7 < ρ.length) (hd : eVar 0 ρ = pure d) (h : ∀ x ∈ xs, callF n i [d, x] = pure (.bl false)) :
    compL (gName 7) (tVal (eOp2 isNotBlD (eCall (callF n i) (aCons (eVar 0) (aCons (eVar 7) (aNil)))) (eLit (.bl false)))) (eVar 7) ρ xs = pure [] :=
  comp_none fun x hx => ⟨_, rfl, by
    have h0 : eVar 0 (ρ.set 7 (.va x)) = pure d := by
      unfold eVar at hd ⊢
      rw [List.getElem?_set_ne (by decide)]
      exact hd
    rw [tVal_ev, eOp2_ev, eCall_ev, aCons_ev, aCons_ev, h0, M.pureb', var_self hk, M.pureb', aNil_ev, M.pureb', M.pureb', M.pureb', h x hx]; rfl⟩
theorem neD_nn : neD (.lst []) (.lst []) = pure (.bl false) := rfl
theorem eqD_nn : eqD (.lst []) (.lst []) = pure (.bl true) := rfl
theorem tups_odds (n : Nat) {names : List Str} {rs : List Rule} (hl : rs.length ≤ 6) {s6 s7 : Sl} :
    compL (gName 8) tYes (eOp2 addD (eSlice (eOpd 1) (pNone) (pSome (eLit (.int 3)))) (eTup (aCons (eVar 8) (aNil)))) [.va (T names), .va (R rs), .va (.lst (odds1 names)), .va one, .va far, .va (.lst bads), s6, s7, .no] bads = pure (bads.map fun b => .tup ((rs.take 3).map R1 ++ [b])) :=
  compL_map (fun b => .tup ((rs.take 3).map R1 ++ [b])) fun b _ => ⟨_, rfl, by
    have hc : cut (rs.map R1) none (some 3) = (rs.take 3).map R1 := by
      unfold cut
      show ((rs.map R1).drop 0).take (min 3 (rs.map R1).length - 0) = _
      rw [List.drop_zero, Nat.sub_zero, ← List.map_take]
      congr 1
      rw [List.length_map]
      by_cases h : 3 ≤ rs.length
      · rw [Nat.min_eq_left h]
      · rw [Nat.min_eq_right (by omega), List.take_of_length_le (Nat.le_refl _), List.take_of_length_le (by omega)]
    have ha : addD (.tup ((rs.map R1).take 3)) (.tup [b]) = pure (.tup ((rs.map R1).take 3 ++ [b])) := by
      show fit (((rs.map R1).take 3).length + 1) _ = _
      rw [fit_le]
      rw [List.length_take]; unfold LIM; omega
    simp [hc, ha]⟩
theorem s_odds (n : Nat) {names : List Str} {rs : List Rule} (hn : names ∈ allNames) (hl : rs.length ≤ 6) (h : ∀ r ∈ rs, okRule names r) : callF (n + 7) 51 [T names, R rs] = pure (.bl true) := by
  have a1 := odds1_no (n + 2) names hn
  have a2 := odds2_no n (rs := rs) hn h
  have a3 := tups_odds n (names := names) (rs := rs) hl (s6 := .no) (s7 := .no)
  have a4 : callF (n + 6) 30 [T names, .tup ((List.replicate 12 [D.tup [one, one]]).flatten)] = pure (.bl true) := by
    refine s_are_rules n hn ?_
    simp only [allNames, List.mem_cons, List.not_mem_nil, or_false] at hn
    rcases hn with rfl | rfl | rfl | rfl | rfl | rfl <;> rfl
  have a5 : callF (n + 6) 30 [T names, R rs] = pure (.bl true) := s_are_rules n hn (s_fits_rules n (by omega) h)
  have a6 : callF (n + 6) 29 [.tup [.str "a0", .str "a1", .str "a2", .str "a3", .str "a4", .str "a5", .str "a6", .str "a7"]] = pure (.bl true) := eight (n + 2)
  have c1 := odds_comp (n + 6) 29 (ρ := [.va (T names), .va (R rs), .va (.lst (odds1 names)), .no, .no, .no, .no, .no, .no]) (k := 0) (by simp) a1
  have c2 := odds_comp2 (n + 6) 30 (ρ := [.va (T names), .va (R rs), .va (.lst (odds2 rs)), .va one, .va far, .va (.lst bads), .no, .no, .no]) (k := 0) (by simp) rfl a2
  have hadd : addD (.lst [.non, .lst (rs.map R1), .tup [one, one], .tup ((List.replicate 13 [D.tup [one, one]]).flatten), .int 5]) (.lst (bads.map fun b => .tup ((rs.take 3).map R1 ++ [b]))) = pure (.lst (odds2 rs)) := rfl
  have e8 : compL (gName 6) tYes (eOp2 addD (eLit (.str "a")) (eCall strD (aCons (eOpd 6) aNil))) [.va (T names), .va (R rs), .va (.lst (odds1 names)), .no, .no, .no, .no, .no, .no] ((List.range 8).map fun (i : Nat) => D.int i) = pure [.str "a0", .str "a1", .str "a2", .str "a3", .str "a4", .str "a5", .str "a6", .str "a7"] := rfl
  have r8 : range1D [.int 8] = pure ((List.range 8).map fun (i : Nat) => D.int i) := rangeN 8 (by decide)
  rw [call_at]
  show runB 2 9 (b__law_odds_right (callF (n + 6))) [T names, R rs] = _
  rw [runB_2]
  apply Ev.eq
  unfold b__law_odds_right
  refine Ev.seqO (ρ1 := [.va (T names), .va (R rs), .va (.lst (odds1 names)), .no, .no, .no, .no, .no, .no]) ?_ ?_
  · clear a1 a2 a3 a4 a5 a6 c1 c2 e8
    simp only [allNames, List.mem_cons, List.not_mem_nil, or_false] at hn
    rcases hn with rfl | rfl | rfl | rfl | rfl | rfl <;> rfl
  refine Ev.seqO (ρ1 := [.va (T names), .va (R rs), .va (.lst (odds1 names)), .no, .no, .no, .no, .no, .no]) ?_ ?_
  · simp [c1, neD_nn, r8, e8, a6]
  refine Ev.seqO (ρ1 := [.va (T names), .va (R rs), .va (.lst (odds1 names)), .va one, .va far, .no, .no, .no, .no]) ?_ ?_
  · clear a1 a2 a3 a4 a5 a6 c1 c2 e8
    simp only [allNames, List.mem_cons, List.not_mem_nil, or_false] at hn
    rcases hn with rfl | rfl | rfl | rfl | rfl | rfl <;> rfl
  refine Ev.seqO (ρ1 := [.va (T names), .va (R rs), .va (.lst (odds1 names)), .va one, .va far, .va (.lst bads), .no, .no, .no]) ?_ ?_
  · clear a1 a2 a3 a4 a5 a6 c1 c2 e8
    simp only [allNames, List.mem_cons, List.not_mem_nil, or_false] at hn
    rcases hn with rfl | rfl | rfl | rfl | rfl | rfl <;> rfl
  have m13 : mulD (.tup [.tup [one, one]]) (.int 13) = pure (.tup ((List.replicate 13 [D.tup [one, one]]).flatten)) := rfl
  have m12 : mulD (.tup [.tup [one, one]]) (.int 12) = pure (.tup ((List.replicate 12 [D.tup [one, one]]).flatten)) := rfl
  refine Ev.seqO (ρ1 := [.va (T names), .va (R rs), .va (.lst (odds2 rs)), .va one, .va far, .va (.lst bads), .no, .no, .no]) ?_ ?_
  · simp only [sSet_ev, xVal_ev, eOp2_ev, eLst_ev, aCons_ev, aNil_ev, eLit_ev, lCall_ev, eTup_ev, eVar_0, eVar_s, eOpd_0, eOpd_s, cComp_ev, iAny_ev, itemsOf_lst, listD_ev, asSeq_tup, M.pureb', M.assoc', wipe_cons, wipe_nil, List.set_cons_succ, List.set_cons_zero, a3, m13, hadd]
  refine Ev.of (a := .bl true) ?_ rfl
  simp only [sRet_ev, eAndV_ev, eOp2_ev, eLst_ev, aCons_ev, aNil_ev, eLit_ev, eCall_ev, eTup_ev, eVar_0, eVar_s, eOpd_0, eOpd_s, cComp_ev, iAny_ev, itemsOf_lst, M.pureb', M.assoc', wipe_cons, wipe_nil, List.set_cons_succ, List.set_cons_zero, c2, eqD_nn, asBl_bl, m12, a4, a5, isBlD_bl, outF_rt, if_true, decide_true]
end K82
end

section
set_option Elab.async false
set_option linter.all false
set_option maxRecDepth 100000
set_option autoImplicit false
set_option maxHeartbeats 1000000
namespace K82
open PySem (Str)
open RP
/-! ### what is drawn is in order -/
def subs : List Str → List (List Str)
  | [] => [[]]
  | x :: r => subs r ++ (subs r).map (x :: ·)
theorem mem_subs {A l : List Str} (h : A.Sublist l) : A ∈ subs l := by
  induction h with
  | slnil => exact List.mem_singleton.mpr rfl
  | cons x _ ih => exact List.mem_append_left _ ih
  | cons_cons x _ ih => exact List.mem_append_right _ (List.mem_map_of_mem ih)
theorem subs_ok : ∀ names ∈ allNames, (subs names).all (fun A => okNames A 0 && (okNames A 1 || A.isEmpty)) = true := by decide +kernel
theorem nms : ∀ names ∈ allNames, (decide (names.length ≤ 6) && decide names.Nodup && names.all isNameS && decide (names ≠ [])) = true := by decide +kernel
theorem part_ok {names A : List Str} (hn : names ∈ allNames) (h : A.Sublist names) : okNames A 0 = true ∧ (1 ≤ A.length → okNames A 1 = true) := by
  have := List.all_eq_true.mp (subs_ok names hn) A (mem_subs h)
  rw [Bool.and_eq_true, Bool.or_eq_true] at this
  refine ⟨this.1, fun h1 => this.2.resolve_right fun z => ?_⟩
  rw [List.isEmpty_iff] at z
  subst z
  cases h1
structure Nm (names : List Str) : Prop where
  mem : names ∈ allNames
  ok : okNames names 1 = true
  len : names.length ≤ 6
  nd : names.Nodup
  nm : names.all isNameS = true
  ne : names ≠ []
theorem nm_of {names : List Str} (h : names ∈ allNames) : Nm names := by
  have := nms names h
  simp only [Bool.and_eq_true, decide_eq_true_eq] at this
  exact ⟨h, nm_ok names h, this.1.1.1, this.1.1.2, this.1.2, this.2⟩
theorem in_of {names A : List Str} (w : Nm names) (h : A.Sublist names) : In names A := ⟨h.nodup w.nd, fun x hx => h.subset hx⟩
theorem rule_of {names : List Str} {r : Rule} (w : Nm names) (h : DrawnR names r) : okRule names r ∧ RuleOk names r := by
  obtain ⟨h1, h2, h3⟩ := h
  exact ⟨⟨(part_ok w.mem h1).1, fun x hx => h1.subset hx, (part_ok w.mem h2).2 h3, fun x hx => h2.subset hx⟩, ⟨fun x hx => h1.subset hx, h2.nodup w.nd, fun x hx => h2.subset hx⟩⟩
/-- all that a turn has drawn -/
structure Drawn (names : List Str) (rs : List Rule) (some : List Str) (r : Rule) : Prop where
  nm : Nm names
  rl : ∀ q ∈ rs, DrawnR names q
  len : rs.length ≤ 6
  sm : some.Sublist names
  r : DrawnR names r
section
variable {names some : List Str} {rs : List Rule} {r : Rule}
theorem Drawn.w (h : Drawn names rs some r) : World names rs := ⟨h.nm.ok, fun q hq => (rule_of h.nm (h.rl q hq)).1, by have := h.len; omega⟩
theorem Drawn.rok (h : Drawn names rs some r) : ∀ q ∈ rs, RuleOk names q := fun q hq => (rule_of h.nm (h.rl q hq)).2
theorem Drawn.ro (h : Drawn names rs some r) : ROk names r := ⟨(rule_of h.nm h.r).1, in_of h.nm h.r.1⟩
theorem Drawn.n12 (h : Drawn names rs some r) : names.length ≤ 12 := by have := h.nm.len; omega
theorem Drawn.closed (h : Drawn names rs some r) {F : List Str} (hF : In names F) : Closed rs (clos rs F) := by
  -- the passes come to an end
  have key : ∀ (k : Nat) (F' : List Str), In names F' → pass rs (passN rs k F') = passN rs k F' ∨ F'.length + k ≤ (passN rs k F').length := by
    intro k
    induction k with
    | zero => intro F' _; exact .inr (Nat.le_refl _)
    | succ k ih =>
      intro F' hin
      by_cases e : pass rs F' = F'
      · left
        rw [passN_fix e]; exact e
      · have hlt : F'.length < (pass rs F').length := by
          rcases Nat.lt_or_ge F'.length (pass rs F').length with h | h
          · exact h
          · exact absurd (pass_same h) e
        rcases ih (pass rs F') (hin.pass h.rok) with h1 | h1
        · exact .inl h1
        · right
          show F'.length + (k + 1) ≤ (passN rs k (pass rs F')).length
          omega
  rcases key 20 F hF with e | e
  · exact pass_fix e
  · have := (In.passN h.rok 20 hF).len
    have := h.nm.len
    omega
end
end K82
end

section
set_option Elab.async false
set_option linter.all false
set_option maxRecDepth 100000
set_option autoImplicit false
set_option maxHeartbeats 1000000
namespace K82
open PySem (Str)
open RP
/-! parts of law, printed by split.py -/
def w1 (c : Nat → List D → M D) : SF := sSet 3 (xVal (eCall (c 41) (aCons (eVar 1) (aCons (eLit (.int 6)) (aNil)))))
def w2 (c : Nat → List D → M D) : SF := sSet 4 (xVal (eCall (c 43) (aCons (eVar 1) (aCons (eVar 3) (aCons (eLit (.int 6)) (aNil))))))
def w3 (c : Nat → List D → M D) : SF := sPar 5 6 (xVal (eCall (c 42) (aCons (eVar 1) (aCons (eVar 3) (aCons (eLit (.int 0)) (aNil)))))) (xVal (eTup (aCons (eCall (c 42) (aCons (eVar 1) (aCons (eVar 3) (aCons (eLit (.int 1)) (aNil))))) (aCons (eCall (c 42) (aCons (eVar 1) (aCons (eVar 3) (aCons (eLit (.int 1)) (aNil))))) (aNil)))))
def w4 (c : Nat → List D → M D) : SF := sIf (tOr (tNot (tVal (eCall (c 40) (aCons (eCall (c 31) (aCons (eVar 3) (aCons (eVar 4) (aCons (eVar 5) (aNil))))) (aCons (eCall (c 44) (aCons (eVar 4) (aCons (eVar 5) (aNil)))) (aNil)))))) (tNot (tVal (eCall (c 51) (aCons (eVar 3) (aCons (eVar 4) (aNil))))))) (sRet (eLit (.bl false))) (sNil)
def w5 (c : Nat → List D → M D) : SF := sSet 7 (xVal (eCall (c 44) (aCons (eVar 4) (aCons (eOp2 ixD (eOpd 6) (eLit (.int 0))) (aNil)))))
def w6 (c : Nat → List D → M D) : SF := sSet 8 (xVal (eOp2 eqD (eLst (cComp [23] (iAny (eOp2 ixD (eOpd 6) (eLit (.int 1)))) (gName 23) (tVal (eOp2 notInD (eOpd 23) (eOpd 7))) (eVar 23))) (eLst (aNil))))
def w7 (c : Nat → List D → M D) : SF := sSet 9 (xVal (eCall (c 49) (aCons (eVar 4) (aCons (eVar 6) (aNil)))))
def w8 (c : Nat → List D → M D) : SF := sIf (tOr (tNot (tVal (eCall (c 40) (aCons (eTup (aCons (eCall (c 32) (aCons (eVar 3) (aCons (eVar 4) (aCons (eVar 6) (aNil))))) (aCons (eCall (c 33) (aCons (eVar 3) (aCons (eVar 4) (aCons (eVar 6) (aNil))))) (aNil)))) (aCons (eTup (aCons (eVar 8) (aCons (eVar 9) (aNil)))) (aNil)))))) (tVal (eOp2 neD (eOpd 8) (eOp1 isNotNoneD (eOpd 9))))) (sRet (eLit (.bl false))) (sNil)
def w9 (c : Nat → List D → M D) : SF := sSet 10 (xVal (eCall (c 35) (aCons (eVar 3) (aCons (eVar 4) (aCons (eVar 6) (aNil))))))
def w10 (c : Nat → List D → M D) : SF := sIf (tVal (eVar 8)) (sIf (tOr (tVal (eOp1 isNotNoneD (eOpd 10))) (tVal (eOp2 isNotBlD (eCall (c 34) (aCons (eVar 3) (aCons (eVar 4) (aCons (eVar 6) (aCons (eVar 9) (aNil)))))) (eLit (.bl true))))) (sRet (eLit (.bl false))) (sNil)) (sSeq (sSet 11 (xVal (eTup (aCons (eCall (c 45) (aCons (eVar 3) (aCons (eOp2 mulD (eTup (aCons (eLit (.int 0)) (aNil))) (eCall lenD (aCons (eOpd 3) aNil))) (aNil)))) (aCons (eCall (c 45) (aCons (eVar 3) (aCons (eLst (cComp [23] (iAny (eOpd 3)) (gName 23) (tYes) (eIf (tVal (eOp2 inD (eOpd 23) (eOpd 7))) (eLit (.int 0)) (eLit (.int 1))))) (aNil)))) (aNil)))))) (sIf (tOr (tNot (tVal (eCall (c 40) (aCons (eVar 10) (aCons (eVar 11) (aNil)))))) (tOr (tNot (tVal (eCall (c 48) (aCons (eVar 11) (aCons (eVar 4) (aNil)))))) (tNot (tVal (eCall (c 40) (aCons (eCall (c 36) (aCons (eVar 3) (aCons (eVar 11) (aCons (eVar 6) (aNil))))) (aCons (eTup (aCons (eLit (.int 0)) (aCons (eLit (.int 1)) (aNil)))) (aNil)))))))) (sRet (eLit (.bl false))) (sNil)))
def w11 (c : Nat → List D → M D) : SF := sSet 12 (xVal (eIf (tVal (eOp1 isNotNoneD (eOpd 9))) (eVar 9) (eTup (aNil))))
def w12 (c : Nat → List D → M D) : SF := sSet 13 (xVal (eLst (cComp [24] (lCall range1D (aCons (eCall (c 38) (aCons (eVar 1) (aCons (eLit (.int 5)) (aNil)))) (aNil))) (gName 24) (tYes) (eCall (c 38) (aCons (eVar 1) (aCons (eOp2 addD (eCall lenD (aCons (eOpd 4) aNil)) (eLit (.int 1))) (aNil)))))))
def w13 (c : Nat → List D → M D) : SF := sSet 14 (xVal (eLst (aCons (eVar 12) (aCons (eOp1 revD (eOpd 12)) (aCons (eOp2 addD (eOpd 12) (eOpd 12)) (aCons (eSlice (eOpd 12) (pSome (eLit (.int 1))) (pNone)) (aCons (eSlice (eOpd 12) (pNone) (pSome (eOp1 negD (eLit (.int 1))))) (aCons (eTup (aNil)) (aCons (eCall tupleD (aCons (eOpd 13) aNil)) (aCons (eTup (lCall range1D (aCons (eCall lenD (aCons (eOpd 4) aNil)) aNil))) (aCons (eOp2 mulD (eTup (lCall range1D (aCons (eCall lenD (aCons (eOpd 4) aNil)) aNil))) (eLit (.int 3))) (aNil))))))))))))
def w14 (c : Nat → List D → M D) : SF := sFor (iAny (eVar 14)) (gName 15) (sIf (tNot (tVal (eCall (c 40) (aCons (eCall (c 34) (aCons (eVar 3) (aCons (eVar 4) (aCons (eVar 6) (aCons (eVar 15) (aNil)))))) (aCons (eCall (c 50) (aCons (eVar 4) (aCons (eVar 6) (aCons (eVar 15) (aNil))))) (aNil)))))) (sRet (eLit (.bl false))) (sNil))
def w15 (c : Nat → List D → M D) : SF := sSet 16 (xVal (eLst (aCons (eLit .non) (aCons (eLst (lCall listD (aCons (eOpd 12) aNil))) (aCons (eOp2 addD (eOpd 12) (eTup (aCons (eLit .non) (aNil)))) (aCons (eOp2 addD (eOpd 12) (eTup (aCons (eCall lenD (aCons (eOpd 4) aNil)) (aNil)))) (aCons (eOp2 addD (eOpd 12) (eTup (aCons (eOp1 negD (eLit (.int 1))) (aNil)))) (aCons (eOp2 addD (eOpd 12) (eTup (aCons (eLit (.str "0")) (aNil)))) (aCons (eOp2 addD (eOpd 12) (eTup (aCons (eLit (.bl true)) (aNil)))) (aCons (eOp2 addD (eOpd 12) (eTup (aCons (eTup (aCons (eLit (.int 0)) (aNil))) (aNil)))) (aCons (eLit (.int 5)) (aNil))))))))))))
def w16 (c : Nat → List D → M D) : SF := sIf (tVal (eOp2 neD (eLst (cComp [25] (iAny (eOpd 16)) (gName 25) (tVal (eOp2 isNotBlD (eCall (c 34) (aCons (eVar 3) (aCons (eVar 4) (aCons (eVar 6) (aCons (eVar 25) (aNil)))))) (eLit (.bl false)))) (eVar 25))) (eLst (aNil)))) (sRet (eLit (.bl false))) (sNil)
def v1 (c : Nat → List D → M D) : SF := sSet 1 (xVal (eCall (c 37) (aCons (eVar 0) (aNil))))
def v3 (c : Nat → List D → M D) : SF := sSet 17 (xVal (eOp2 addD (eLit (.int 2)) (eCall (c 38) (aCons (eVar 1) (aCons (eLit (.int 6)) (aNil))))))
def v4 (c : Nat → List D → M D) : SF := sSet 3 (xVal (eCall tupleD (aCons (eLst (cComp [26] (lCall range1D (aCons (eOpd 17) (aNil))) (gName 26) (tYes) (eOp2 addD (eLit (.str "n")) (eCall strD (aCons (eOpd 26) aNil))))) aNil)))
def v5 (c : Nat → List D → M D) : SF := sSet 18 (xVal (eCall tupleD (aCons (eLst (cComp [26] (lCall range3D (aCons (eOp2 subD (eOpd 17) (eLit (.int 2))) (aCons (eOp1 negD (eLit (.int 1))) (aCons (eOp1 negD (eLit (.int 1))) (aNil))))) (gName 26) (tYes) (eTup (aCons (eTup (aCons (eOp2 ixD (eOpd 3) (eOpd 26)) (aNil))) (aCons (eTup (aCons (eOp2 ixD (eOpd 3) (eOp2 addD (eOpd 26) (eLit (.int 1)))) (aNil))) (aNil)))))) aNil)))
def v6 (c : Nat → List D → M D) : SF := sSet 19 (xVal (eCall (c 38) (aCons (eVar 1) (aCons (eOp2 subD (eOpd 17) (eLit (.int 1))) (aNil)))))
def v7 (c : Nat → List D → M D) : SF := sPar 20 21 (xVal (eOp2 addD (eSlice (eOpd 18) (pNone) (pSome (eOpd 19))) (eSlice (eOpd 18) (pSome (eOp2 addD (eOpd 19) (eLit (.int 1)))) (pNone)))) (xVal (eTup (aCons (eTup (aCons (eOp2 ixD (eOpd 3) (eLit (.int 0))) (aNil))) (aCons (eTup (aCons (eOp2 ixD (eOpd 3) (eOp1 negD (eLit (.int 1)))) (aNil))) (aNil)))))
def v8 (c : Nat → List D → M D) : SF := sSet 22 (xVal (eTup (aCons (eCall (c 33) (aCons (eVar 3) (aCons (eVar 18) (aCons (eVar 21) (aNil))))) (aCons (eCall (c 31) (aCons (eVar 3) (aCons (eVar 18) (aCons (eSlice (eOpd 3) (pNone) (pSome (eLit (.int 1)))) (aNil))))) (aCons (eCall (c 32) (aCons (eVar 3) (aCons (eVar 20) (aCons (eVar 21) (aNil))))) (aCons (eOp2 ixD (eCall (c 35) (aCons (eVar 3) (aCons (eVar 20) (aCons (eVar 21) (aNil))))) (eLit (.int 1))) (aNil)))))))
def v9 (c : Nat → List D → M D) : SF := sSet 9 (xVal (eTup (aCons (eTup (lCall range3D (aCons (eOp2 subD (eOpd 17) (eLit (.int 2))) (aCons (eOp1 negD (eLit (.int 1))) (aCons (eOp1 negD (eLit (.int 1))) aNil))))) (aCons (eVar 3) (aCons (eLit (.bl false)) (aCons (eCall (c 45) (aCons (eVar 3) (aCons (eLst (cComp [26] (lCall range1D (aCons (eOpd 17) (aNil))) (gName 26) (tYes) (eIf (tVal (eOp2 ltD (eOpd 26) (eOp2 subD (eOp2 subD (eOpd 17) (eLit (.int 1))) (eOpd 19)))) (eLit (.int 0)) (eLit (.int 1))))) (aNil)))) (aNil)))))))
def v10 (c : Nat → List D → M D) : SF := sRet (eCall (c 40) (aCons (eVar 22) (aCons (eVar 9) (aNil))))
def wbody (c : Nat → List D → M D) : SF := sSeq (w1 c) (sSeq (w2 c) (sSeq (w3 c) (sSeq (w4 c) (sSeq (w5 c) (sSeq (w6 c) (sSeq (w7 c) (sSeq (w8 c) (sSeq (w9 c) (sSeq (w10 c) (sSeq (w11 c) (sSeq (w12 c) (sSeq (w13 c) (sSeq (w14 c) (sSeq (w15 c) (w16 c)))))))))))))))
theorem law_parts (c : Nat → List D → M D) : b_law c = sSeq (v1 c) (sSeq (sFor (lCall range1D (aCons (eLit (.int 5)) (aNil))) (gName 2) (wbody c)) (sSeq (v3 c) (sSeq (v4 c) (sSeq (v5 c) (sSeq (v6 c) (sSeq (v7 c) (sSeq (v8 c) (sSeq (v9 c) (v10 c))))))))) := rfl
end K82
end

section
set_option Elab.async false
set_option linter.all false
set_option maxRecDepth 100000
set_option autoImplicit false
set_option maxHeartbeats 1000000
namespace K82
open PySem (Str)
open RP
abbrev LEnv (sc x2 x3 x4 x5 x6 x7 x8 x9 x10 x11 x12 x13 x14 x15 x16 u17 u18 u19 u20 u21 u22 u23 u24 u25 u26 : Sl) : Env := [sc, .va (.obj 0), x2, x3, x4, x5, x6, x7, x8, x9, x10, x11, x12, x13, x14, x15, x16, u17, u18, u19, u20, u21, u22, u23, u24, u25, u26]
theorem toR {names : List Str} {r : Rule} {A B : List Str} (hA : A.Sublist names) (hB : B.Sublist names) (h1 : 1 ≤ B.length) : DrawnR names (A, B) := ⟨hA, hB, h1⟩
section
variable {sc x2 x3 x4 x5 x6 x7 x8 x9 x10 x11 x12 x13 x14 x15 x16 u17 u18 u19 u20 u21 u22 u23 u24 u25 u26 : Sl}
theorem t_w1 : Tr Cup (w1 (callF 60) (LEnv sc x2 x3 x4 x5 x6 x7 x8 x9 x10 x11 x12 x13 x14 x15 x16 u17 u18 u19 u20 u21 u22 u23 u24 u25 u26)) fun f => ∃ ρ1, f = .nx ρ1 ∧ ∃ names, Nm names ∧ ρ1 = LEnv sc x2 (.va (T names)) x4 x5 x6 x7 x8 x9 x10 x11 x12 x13 x14 x15 x16 u17 u18 u19 u20 u21 u22 u23 u24 u25 u26 := by
  unfold w1
  simp
  refine Tr.bind (s_names 58) ?_
  rintro d ⟨names, rfl, hm⟩
  exact Tr.pure ⟨_, rfl, names, nm_of hm, rfl⟩
theorem t_w2 {names : List Str} (hn : Nm names) : Tr Cup (w2 (callF 60) (LEnv sc x2 (.va (T names)) x4 x5 x6 x7 x8 x9 x10 x11 x12 x13 x14 x15 x16 u17 u18 u19 u20 u21 u22 u23 u24 u25 u26)) fun f => ∃ ρ1, f = .nx ρ1 ∧ ∃ rs : List Rule, rs.length ≤ 6 ∧ (∀ q ∈ rs, DrawnR names q) ∧ ρ1 = LEnv sc x2 (.va (T names)) (.va (R rs)) x5 x6 x7 x8 x9 x10 x11 x12 x13 x14 x15 x16 u17 u18 u19 u20 u21 u22 u23 u24 u25 u26 := by
  have h := s_rules 56 hn.ne (by have := hn.len; omega)
  generalize hP : (fun f : Fl => ∃ ρ1, f = .nx ρ1 ∧ ∃ rs : List Rule, rs.length ≤ 6 ∧ (∀ q ∈ rs, DrawnR names q) ∧ ρ1 = LEnv sc x2 (.va (T names)) (.va (R rs)) x5 x6 x7 x8 x9 x10 x11 x12 x13 x14 x15 x16 u17 u18 u19 u20 u21 u22 u23 u24 u25 u26) = P
  unfold w2
  simp
  subst hP
  refine Tr.bind h ?_
  rintro d ⟨rs, rfl, hl, hr⟩
  exact Tr.pure ⟨_, rfl, rs, hl, hr, rfl⟩
theorem t_w3 {names : List Str} {rs : List Rule} (hn : Nm names) (hl : rs.length ≤ 6) (hr : ∀ q ∈ rs, DrawnR names q) : Tr Cup (w3 (callF 60) (LEnv sc x2 (.va (T names)) (.va (R rs)) x5 x6 x7 x8 x9 x10 x11 x12 x13 x14 x15 x16 u17 u18 u19 u20 u21 u22 u23 u24 u25 u26)) fun f => ∃ ρ1, f = .nx ρ1 ∧ ∃ (some : List Str) (r : Rule), Drawn names rs some r ∧ ρ1 = LEnv sc x2 (.va (T names)) (.va (R rs)) (.va (T some)) (.va (R1 r)) x7 x8 x9 x10 x11 x12 x13 x14 x15 x16 u17 u18 u19 u20 u21 u22 u23 u24 u25 u26 := by
  have h0 := s_part 57 (least := 0) hn.ne (by have := hn.len; omega) (by decide)
  have h1 := s_part 57 (least := 1) hn.ne (by have := hn.len; omega) (by decide)
  generalize hP : (fun f : Fl => ∃ ρ1, f = .nx ρ1 ∧ ∃ (some : List Str) (r : Rule), Drawn names rs some r ∧ ρ1 = LEnv sc x2 (.va (T names)) (.va (R rs)) (.va (T some)) (.va (R1 r)) x7 x8 x9 x10 x11 x12 x13 x14 x15 x16 u17 u18 u19 u20 u21 u22 u23 u24 u25 u26) = P
  unfold w3
  simp
  subst hP
  refine Tr.bind h0 ?_
  rintro d ⟨A, rfl, hA, _⟩
  refine Tr.bind h1 ?_
  rintro d ⟨B, rfl, hB, hB1⟩
  refine Tr.bind h1 ?_
  rintro d ⟨C, rfl, hC, hC1⟩
  exact Tr.pure ⟨_, rfl, A, (B, C), ⟨hn, hr, hl, hA, ⟨hB, hC, hC1⟩⟩, rfl⟩
end
end K82
end

section
set_option Elab.async false
set_option linter.all false
set_option maxRecDepth 100000
set_option autoImplicit false
set_option maxHeartbeats 1000000
namespace K82
open PySem (Str)
open RP
section
variable {sc x2 x3 x4 x5 x6 x7 x8 x9 x10 x11 x12 x13 x14 x15 x16 u17 u18 u19 u20 u21 u22 u23 u24 u25 u26 : Sl} {names some : List Str} {rs : List Rule} {r : Rule}

theorem not_inT (k j : Nat) {ρ : Env} {F : List Str} {x : Str} (hF : eOpd j ρ = pure (T F)) (hk : k < ρ.length) (hj : j ≠ k) : tVal (eOp2 notInD (eOpd k) (eOpd j)) (ρ.set k (.va (.str x))) = pure (!decide (x ∈ F)) := by
  rw [tVal_ev, eOp2_ev, opd_self hk, opd_set hj, hF, M.pureb', M.pureb', notInD_strT]; rfl
theorem new_ofT (k j : Nat) {ρ : Env} {A F : List Str} (hF : eOpd j ρ = pure (T F)) (hk : k < ρ.length) (hj : j ≠ k) :
    compL (gName k) (tVal (eOp2 notInD (eOpd k) (eOpd j))) (eVar k) ρ (A.map D.str) = pure ((newOf A F).map D.str) :=
  compL_valM D.str (fun x => !decide (x ∈ F)) D.str fun x _ => ⟨_, rfl, not_inT k j hF hk hj, fun _ => var_self hk⟩
theorem nice_T (n : Nat) (ss : List Str) (h : ss.length ≤ 1000) : niceN (n + 1) (T ss) = true := by
  show (decide ((ss.map D.str).length ≤ 1000) && (ss.map D.str).all (niceN n)) = true
  rw [List.length_map, decide_eq_true h, List.all_map, Bool.true_and, List.all_eq_true]
  intro x _
  cases n <;> rfl
theorem nice_Ns (n : Nat) (ss : List Nat) (h : ss.length ≤ 1000) : niceN (n + 1) (Ns ss) = true := by
  show (decide ((ss.map fun (i : Nat) => D.int i).length ≤ 1000) && (ss.map fun (i : Nat) => D.int i).all (niceN n)) = true
  rw [List.length_map, decide_eq_true h, List.all_map, Bool.true_and, List.all_eq_true]
  intro x _
  cases n <;> rfl
theorem neD_bl (a b : Bool) : neD (.bl a) (.bl b) = pure (.bl (!(a == b))) := by cases a <;> cases b <;> rfl
theorem seek_len {goal : List Str} : ∀ {n : Nat} {K : List Str} {F G : List Nat}, seek rs goal n K F = Option.some G → G.length ≤ F.length + n
  | 0, _, _, _, h => by cases h
  | n + 1, K, F, G, h => by
    have h' : (if sub goal K = true then Option.some F else match goodL rs K with
          | [] => none
          | i :: _ => seek rs goal n (K ++ (ruleAt rs i).2) (F ++ [i])) = Option.some G := h
    by_cases hs : sub goal K = true
    · rw [if_pos hs] at h'; cases h'; omega
    · rw [if_neg hs] at h'
      cases e : goodL rs K with
      | nil => rw [e] at h'; cases h'
      | cons i t =>
        rw [e] at h'
        have := seek_len h'
        rw [List.length_append] at this
        simp at this; omega
/-- the due proof -/
def due (rs : List Rule) (r : Rule) : Option (List Nat) := seek rs r.2 (rs.length + 1) r.1 []
def so (rs : List Rule) (r : Rule) : Bool := sub r.2 (clos rs r.1)
theorem len_insS (x : Str) : ∀ ss : List Str, (insS x ss).length = ss.length + 1
  | [] => rfl
  | y :: r => by
    unfold insS
    split
    · rfl
    · rw [List.length_cons, len_insS x r, List.length_cons]
theorem len_sortS : ∀ ss : List Str, (sortS ss).length = ss.length
  | [] => rfl
  | x :: r => by
    show (insS x (sortS r)).length = _
    rw [len_insS, len_sortS r, List.length_cons]
theorem len_sort_clos {F : List Str} (hr : ∀ q ∈ rs, RuleOk names q) (hF : In names F) (hn : names.length ≤ 12) : (sortS (clos rs F)).length ≤ 1000 := by
  have := (In.passN hr 20 hF).len
  rw [len_sortS]
  unfold clos
  omega
theorem due_so (h : Drawn names rs some r) : (due rs r).isSome = so rs r := by
  unfold due so
  cases hs : sub r.2 (clos rs r.1) with
  | true =>
    obtain ⟨G, hG⟩ := seek_some (F0 := r.1) (sub_iff.mp hs) (rs.length + 1) r.1 [] (fun _ hx => hx) (by have := unused_le rs r.1; omega)
    rw [hG]; rfl
  | false => rw [seek_none (h.closed h.ro.lin) hs _ _ _ fun x hx => mem_passN hx]; rfl
theorem due_len (h : Drawn names rs some r) {G : List Nat} (e : due rs r = Option.some G) : G.length ≤ 7 := by
  have := seek_len e
  have := h.len
  simp at this ⊢; simp at *; omega
theorem nice_due (h : Drawn names rs some r) : niceN 1 (outP (due rs r)) = true := by
  cases e : due rs r with
  | none => rfl
  | some G => exact nice_Ns 0 G (by have := due_len h e; omega)

theorem e_w4 (h : Drawn names rs some r) : w4 (callF 60) (LEnv sc x2 (.va (T names)) (.va (R rs)) (.va (T some)) (.va (R1 r)) x7 x8 x9 x10 x11 x12 x13 x14 x15 x16 u17 u18 u19 u20 u21 u22 u23 u24 u25 u26) = pure (.nx (LEnv sc x2 (.va (T names)) (.va (R rs)) (.va (T some)) (.va (R1 r)) x7 x8 x9 x10 x11 x12 x13 x14 x15 x16 u17 u18 u19 u20 u21 u22 u23 u24 u25 u26)) := by
  have k1 : callF 60 31 [T names, R rs, T some] = pure (T (sortS (clos rs some))) := s_settled 53 h.w (part_ok h.nm.mem h.sm).1 (in_of h.nm h.sm) h.rok h.n12
  have k2 : callF 60 44 [R rs, T some] = pure (T (sortS (clos rs some))) := s_law_settled 59 (in_of h.nm h.sm) h.rok h.n12
  have k3 : callF 60 40 [T (sortS (clos rs some)), T (sortS (clos rs some))] = pure (.bl true) := s_same 1 58 _ (nice_T 0 _ (len_sort_clos h.rok (in_of h.nm h.sm) h.n12))
  have k4 : callF 60 51 [T names, R rs] = pure (.bl true) := s_odds 53 h.nm.mem h.len fun q hq => (rule_of h.nm (h.rl q hq)).1
  unfold w4
  simp [k1, k2, k3, k4]
theorem e_w5 (h : Drawn names rs some r) : w5 (callF 60) (LEnv sc x2 (.va (T names)) (.va (R rs)) (.va (T some)) (.va (R1 r)) x7 x8 x9 x10 x11 x12 x13 x14 x15 x16 u17 u18 u19 u20 u21 u22 u23 u24 u25 u26) = pure (.nx (LEnv sc x2 (.va (T names)) (.va (R rs)) (.va (T some)) (.va (R1 r)) (.va (T (sortS (clos rs r.1)))) x8 x9 x10 x11 x12 x13 x14 x15 x16 u17 u18 u19 u20 u21 u22 u23 u24 u25 u26)) := by
  have k2 : callF 60 44 [R rs, T r.1] = pure (T (sortS (clos rs r.1))) := s_law_settled 59 h.ro.lin h.rok h.n12
  unfold w5
  simp [k2]
theorem e_w6 (h : Drawn names rs some r) : w6 (callF 60) (LEnv sc x2 (.va (T names)) (.va (R rs)) (.va (T some)) (.va (R1 r)) (.va (T (sortS (clos rs r.1)))) x8 x9 x10 x11 x12 x13 x14 x15 x16 u17 u18 u19 u20 u21 u22 u23 u24 u25 u26) = pure (.nx (LEnv sc x2 (.va (T names)) (.va (R rs)) (.va (T some)) (.va (R1 r)) (.va (T (sortS (clos rs r.1)))) (.va (.bl (so rs r))) x9 x10 x11 x12 x13 x14 x15 x16 u17 u18 u19 u20 u21 u22 u23 u24 u25 u26)) := by
  have k1 := new_ofT 23 7 (ρ := (LEnv sc x2 (.va (T names)) (.va (R rs)) (.va (T some)) (.va (R1 r)) (.va (T (sortS (clos rs r.1)))) x8 x9 x10 x11 x12 x13 x14 x15 x16 u17 u18 u19 u20 u21 u22 u23 u24 u25 u26).set 23 .no) (A := r.2) (F := sortS (clos rs r.1)) rfl (by simp) (by decide)
  have k2 := eqD_new r.2 (sortS (clos rs r.1))
  rw [sub_sort] at k2
  simp at k1
  unfold w6 so
  simp [k1, k2]
theorem e_w7 (h : Drawn names rs some r) : w7 (callF 60) (LEnv sc x2 (.va (T names)) (.va (R rs)) (.va (T some)) (.va (R1 r)) (.va (T (sortS (clos rs r.1)))) (.va (.bl (so rs r))) x9 x10 x11 x12 x13 x14 x15 x16 u17 u18 u19 u20 u21 u22 u23 u24 u25 u26) = pure (.nx (LEnv sc x2 (.va (T names)) (.va (R rs)) (.va (T some)) (.va (R1 r)) (.va (T (sortS (clos rs r.1)))) (.va (.bl (so rs r))) (.va (outP (due rs r))) x10 x11 x12 x13 x14 x15 x16 u17 u18 u19 u20 u21 u22 u23 u24 u25 u26)) := by
  have k1 : callF 60 49 [R rs, R1 r] = pure (outP (due rs r)) := s_law_proof 59 (by have := h.len; omega) (fun q hq => by have := nodup_len (h.rok q hq).rnd (h.rok q hq).r; have := h.n12; omega) (by have := h.ro.lin.len; have := h.n12; omega)
  unfold w7
  simp [k1]
theorem notNone_out (o : Option (List Nat)) : isNotNoneD (outP o) = pure (.bl o.isSome) := by cases o <;> rfl
theorem e_w8 (h : Drawn names rs some r) : w8 (callF 60) (LEnv sc x2 (.va (T names)) (.va (R rs)) (.va (T some)) (.va (R1 r)) (.va (T (sortS (clos rs r.1)))) (.va (.bl (so rs r))) (.va (outP (due rs r))) x10 x11 x12 x13 x14 x15 x16 u17 u18 u19 u20 u21 u22 u23 u24 u25 u26) = pure (.nx (LEnv sc x2 (.va (T names)) (.va (R rs)) (.va (T some)) (.va (R1 r)) (.va (T (sortS (clos rs r.1)))) (.va (.bl (so rs r))) (.va (outP (due rs r))) x10 x11 x12 x13 x14 x15 x16 u17 u18 u19 u20 u21 u22 u23 u24 u25 u26)) := by
  have k1 : callF 60 32 [T names, R rs, R1 r] = pure (.bl (so rs r)) := s_follows 52 h.w h.ro h.rok h.n12
  have k2 : callF 60 33 [T names, R rs, R1 r] = pure (outP (due rs r)) := s_proof 52 h.w h.ro h.rok h.n12 (h.closed h.ro.lin)
  have k3 : callF 60 40 [.tup [.bl (so rs r), outP (due rs r)], .tup [.bl (so rs r), outP (due rs r)]] = pure (.bl true) := s_same 2 57 _ (by
    show (true && ([D.bl (so rs r), outP (due rs r)]).all (niceN 1)) = true
    rw [List.all_cons, List.all_cons, nice_due h]; rfl)
  have k4 := notNone_out (due rs r)
  rw [due_so h] at k4
  have k5 := neD_bl (so rs r) (so rs r)
  rw [beq_self_eq_true] at k5
  unfold w8
  simp [k1, k2, k3, k4, k5]
theorem e_w9 (h : Drawn names rs some r) : w9 (callF 60) (LEnv sc x2 (.va (T names)) (.va (R rs)) (.va (T some)) (.va (R1 r)) (.va (T (sortS (clos rs r.1)))) (.va (.bl (so rs r))) (.va (outP (due rs r))) x10 x11 x12 x13 x14 x15 x16 u17 u18 u19 u20 u21 u22 u23 u24 u25 u26) = pure (.nx (LEnv sc x2 (.va (T names)) (.va (R rs)) (.va (T some)) (.va (R1 r)) (.va (T (sortS (clos rs r.1)))) (.va (.bl (so rs r))) (.va (outP (due rs r))) (.va (if so rs r = true then .non else .tup [Dc names fun _ => 0, Dc names (mark (clos rs r.1))])) x11 x12 x13 x14 x15 x16 u17 u18 u19 u20 u21 u22 u23 u24 u25 u26)) := by
  have k1 : callF 60 35 [T names, R rs, R1 r] = pure (if so rs r = true then .non else .tup [Dc names fun _ => 0, Dc names (mark (clos rs r.1))]) := s_against 52 h.w h.ro h.rok h.n12
  unfold w9
  simp [k1]
end
end K82
end

section
set_option Elab.async false
set_option linter.all false
set_option maxRecDepth 100000
set_option autoImplicit false
set_option maxHeartbeats 1000000
namespace K82
open PySem (Str)
open RP
section
variable {sc x2 x3 x4 x5 x6 x7 x8 x9 x10 x11 x12 x13 x14 x15 x16 u17 u18 u19 u20 u21 u22 u23 u24 u25 u26 : Sl} {names some : List Str} {rs : List Rule} {r : Rule}
/-- the two documents against it -/
abbrev u0 : Str → Int := fun _ => 0
abbrev u1 (rs : List Rule) (r : Rule) : Str → Int := mark (clos rs r.1)
theorem same_mark {A F : List Str} : same u0 (mark F) A = sub A F := by
  unfold same sub
  congr 1
  funext x
  unfold mark
  by_cases h : x ∈ F
  · simp [h]
  · simp [h, u0]
theorem nice_Dc (n : Nat) (u : Str → Int) (hn : names.length ≤ 12) : niceN (n + 3) (Dc names u) = true := by
  show (true && ([D.str "doc", D.tup (Fs names u)]).all (niceN (n + 2))) = true
  rw [List.all_cons, List.all_cons]
  have : niceN (n + 2) (D.tup (Fs names u)) = true := by
    show (decide ((Fs names u).length ≤ 1000) && (Fs names u).all (niceN (n + 1))) = true
    rw [decide_eq_true (by rw [List.length_map]; omega), List.all_map, Bool.true_and, List.all_eq_true]
    intro x _
    show (true && [D.str x, D.int (u x)].all (niceN n)) = true
    cases n <;> rfl
  rw [this]; rfl
theorem keeps_all (h : Drawn names rs some r) : (rs.all fun q => !(same u0 (u1 rs r) q.1 && !same u0 (u1 rs r) q.2)) = true := by
  rw [List.all_eq_true]
  intro q hq
  rw [same_mark, same_mark]
  cases h1 : sub q.1 (clos rs r.1) with
  | false => rfl
  | true =>
    rw [sub_iff.mpr (h.closed h.ro.lin q hq (sub_iff.mp h1))]; rfl
theorem s_isproof_due (h : Drawn names rs some r) (hs : so rs r = true) : callF 60 34 [T names, R rs, R1 r, outP (due rs r)] = pure (.bl true) := by
  have hd := due_so h
  rw [hs] at hd
  cases e : due rs r with
  | none => rw [e] at hd; cases hd
  | some G =>
    obtain ⟨k1, k2⟩ := seek_ok (rs := rs) (goal := r.2) (F0 := r.1) (F := []) rfl (fun _ hi => by cases hi) e
    have hl := due_len h e
    have e1 : (Ns G) = Is (G.map fun (i : Nat) => (i : Int)) := by show D.tup _ = D.tup _; rw [List.map_map]; rfl
    have k3 : callF 60 34 [T names, R rs, R1 r, Is (G.map fun (i : Nat) => (i : Int))] = pure (.bl (lproofB rs r (G.map fun (i : Nat) => (i : Int)))) := s_is_proof 52 h.w h.ro (by rw [List.length_map]; omega) (fun q hq => by have := nodup_len (h.rok q hq).rnd (h.rok q hq).r; have := h.n12; omega) (by have := h.ro.lin.len; have := h.n12; omega)
    show callF 60 34 [T names, R rs, R1 r, Ns G] = _
    rw [e1, k3, lproof_eq]
    have e2 : ((G.map fun (i : Nat) => (i : Int)).all (okAt rs)) = true := by
      rw [List.all_map, List.all_eq_true]
      intro i hi
      show okAt rs (i : Int) = true
      unfold okAt
      rw [decide_eq_true (Int.natCast_nonneg i), decide_eq_true (by have := k2 i hi; omega)]; rfl
    have e3 : (G.map fun (i : Nat) => (i : Int)).map Int.toNat = G := by
      rw [List.map_map]
      have : (Int.toNat ∘ fun (i : Nat) => (i : Int)) = id := by funext i; exact Int.toNat_natCast i
      rw [this, List.map_id]
    rw [e2, e3, Bool.true_and]
    have : (r.1, r.2) = r := rfl
    rw [this] at k1
    rw [k1]

theorem e_w10 (h : Drawn names rs some r) : ∃ x11', w10 (callF 60) (LEnv sc x2 (.va (T names)) (.va (R rs)) (.va (T some)) (.va (R1 r)) (.va (T (sortS (clos rs r.1)))) (.va (.bl (so rs r))) (.va (outP (due rs r))) (.va (if so rs r = true then .non else .tup [Dc names fun _ => 0, Dc names (mark (clos rs r.1))])) x11 x12 x13 x14 x15 x16 u17 u18 u19 u20 u21 u22 u23 u24 u25 u26) = pure (.nx (LEnv sc x2 (.va (T names)) (.va (R rs)) (.va (T some)) (.va (R1 r)) (.va (T (sortS (clos rs r.1)))) (.va (.bl (so rs r))) (.va (outP (due rs r))) (.va (if so rs r = true then .non else .tup [Dc names fun _ => 0, Dc names (mark (clos rs r.1))])) x11' x12 x13 x14 x15 x16 u17 u18 u19 u20 u21 u22 u23 u24 u25 u26)) := by
  cases hs : so rs r with
  | true =>
    have k1 := s_isproof_due h hs
    have k2 : isNotBlD (.bl true) (.bl true) = pure (.bl false) := rfl
    refine ⟨x11, ?_⟩
    unfold w10
    simp [k1, k2]
  | false =>
    have hn := h.n12
    have k1 := rep_zero hn
    have k2 : callF 60 45 [T names, .tup (names.map fun _ => .int 0)] = pure (Dc names u0) := s_doc_of 59 (val := u0) hn fun i hi => ix_map (val := u0) i hi
    have k3 : callF 60 45 [T names, .lst (names.map fun x => .int (u1 rs r x))] = pure (Dc names (u1 rs r)) := s_doc_of 59 (val := u1 rs r) hn fun i hi => ix_mapL (val := u1 rs r) i hi
    have k4 := compL_mapM (g := gName 23) (e := eIf (tVal (eOp2 inD (eOpd 23) (eOpd 7))) (eLit (.int 0)) (eLit (.int 1))) (ρ := (LEnv sc x2 (.va (T names)) (.va (R rs)) (.va (T some)) (.va (R1 r)) (.va (T (sortS (clos rs r.1)))) (.va (.bl false)) (.va (outP (due rs r))) (.va (.tup [Dc names u0, Dc names (u1 rs r)])) x11 x12 x13 x14 x15 x16 u17 u18 u19 u20 u21 u22 u23 u24 u25 u26).set 23 .no) D.str (fun x => .int (u1 rs r x)) (xs := names) fun x _ => ⟨_, rfl, by
      by_cases hx : x ∈ clos rs r.1
      · have hx' := mem_sortS.mpr hx
        simp [u1, mark, hx, hx']
      · have hx' : ¬ x ∈ sortS (clos rs r.1) := fun z => hx (mem_sortS.mp z)
        simp [u1, mark, hx, hx']⟩
    have k5 : callF 60 40 [.tup [Dc names u0, Dc names (u1 rs r)], .tup [Dc names u0, Dc names (u1 rs r)]] = pure (.bl true) := s_same 4 55 _ (by
      show (true && ([Dc names u0, Dc names (u1 rs r)]).all (niceN 3)) = true
      rw [List.all_cons, List.all_cons, nice_Dc 0 u0 hn, nice_Dc 0 (u1 rs r) hn]; rfl)
    have k6 : callF 60 48 [.tup [Dc names u0, Dc names (u1 rs r)], R rs] = pure (.bl true) := by
      have := s_law_keeps 57 (u := u0) (v := u1 rs r) h.nm.nd fun q hq => ⟨(h.rok q hq).l, (h.rok q hq).r⟩
      rw [keeps_all h] at this
      exact this
    have k7 : callF 60 36 [T names, .tup [Dc names u0, Dc names (u1 rs r)], R1 r] = pure (.tup [.int 0, .int 1]) := by
      have := s_breach 53 (u := u0) (v := u1 rs r) h.nm.ok h.nm.nd h.nm.nm hn (fun _ _ => by unfold inRange u0; omega) (fun x _ => by unfold inRange u1 mark; split <;> omega) h.ro.ok
      rw [same_mark, same_mark, if_pos ⟨sub_iff.mpr fun x hx => mem_passN hx, hs⟩] at this
      exact this
    have k8 : callF 60 40 [.tup [.int 0, .int 1], .tup [.int 0, .int 1]] = pure (.bl true) := s_same 1 58 _ rfl
    refine ⟨.va (.tup [Dc names u0, Dc names (u1 rs r)]), ?_⟩
    simp at k4
    unfold w10
    simp [k1, k2, k3, k4, k5, k6, k7, k8]

end
end K82
end

section
set_option Elab.async false
set_option linter.all false
set_option maxRecDepth 100000
set_option autoImplicit false
set_option maxHeartbeats 1000000
namespace K82
open PySem (Str)
open RP
/-- whole numbers of a proof -/
def bs (rs : List Rule) (r : Rule) : List Int := ((due rs r).getD []).map fun (i : Nat) => (i : Int)
theorem bs_len {names some : List Str} {rs : List Rule} {r : Rule} (h : Drawn names rs some r) : (bs rs r).length ≤ 7 := by
  unfold bs
  cases e : due rs r with
  | none => simp
  | some G => have := due_len h e; simpa using this
theorem out_some {o : Option (List Nat)} (h : o.isSome = true) : outP o = Is ((o.getD []).map fun (i : Nat) => (i : Int)) := by
  cases o with
  | none => cases h
  | some G => show D.tup _ = D.tup _; rw [List.map_map]; rfl
theorem out_none {o : Option (List Nat)} (h : o.isSome = false) : D.tup [] = Is ((o.getD []).map fun (i : Nat) => (i : Int)) := by
  cases o with
  | none => rfl
  | some G => cases h
theorem cut_map {α β : Type} (f : α → β) (xs : List α) (l h : Option Int) : cut (xs.map f) l h = (cut xs l h).map f := by
  unfold cut
  simp [List.map_take, List.map_drop]
theorem cut_len {α : Type} (xs : List α) (l h : Option Int) : (cut xs l h).length ≤ xs.length := by
  unfold cut
  simp
  try omega
theorem ints_of : ∀ {ds : List D}, (∀ d ∈ ds, ∃ r : Int, d = .int r) → ∃ js : List Int, ds = js.map D.int
  | [], _ => ⟨[], rfl⟩
  | d :: ds, h => by
    obtain ⟨j, rfl⟩ := h _ List.mem_cons_self
    obtain ⟨js, rfl⟩ := ints_of fun x hx => h x (List.mem_cons_of_mem _ hx)
    exact ⟨j :: js, rfl⟩
/-- the tuples tried -/
def tried (rs : List Rule) (r : Rule) (js : List Int) : List (List Int) :=
  [bs rs r, (bs rs r).reverse, bs rs r ++ bs rs r, cut (bs rs r) (.some 1) .none, cut (bs rs r) .none (.some (-1)), [], js, (List.range rs.length).map fun (i : Nat) => (i : Int), (List.replicate 3 ((List.range rs.length).map fun (i : Nat) => (i : Int))).flatten]
theorem tried_len {names some : List Str} {rs : List Rule} {r : Rule} {js : List Int} (h : Drawn names rs some r) (hj : js.length ≤ 5) : ∀ x ∈ tried rs r js, x.length ≤ 40 := by
  have h1 := bs_len h
  have h2 := cut_len (bs rs r) (.some 1) .none
  have h3 := cut_len (bs rs r) .none (.some (-1))
  have h4 := h.len
  intro x hx
  unfold tried at hx
  simp only [List.mem_cons, List.not_mem_nil, or_false] at hx
  rcases hx with rfl | rfl | rfl | rfl | rfl | rfl | rfl | rfl | rfl
  · omega
  · rw [List.length_reverse]; omega
  · rw [List.length_append]; omega
  · omega
  · omega
  · exact Nat.zero_le _
  · omega
  · rw [List.length_map, List.length_range]; omega
  · simp; omega
end K82
end

section
set_option Elab.async false
set_option linter.all false
set_option maxRecDepth 100000
set_option autoImplicit false
set_option maxHeartbeats 1000000
namespace K82
open PySem (Str)
open RP
section
variable {sc x2 x3 x4 x5 x6 x7 x8 x9 x10 x11 x12 x13 x14 x15 x16 u17 u18 u19 u20 u21 u22 u23 u24 u25 u26 : Sl} {names some : List Str} {rs : List Rule} {r : Rule} {js : List Int}
def oddL (rs : List Rule) (r : Rule) : List D := [.non, .lst ((bs rs r).map D.int), .tup ((bs rs r).map D.int ++ [.non]), .tup ((bs rs r).map D.int ++ [.int rs.length]), .tup ((bs rs r).map D.int ++ [.int (-1)]), .tup ((bs rs r).map D.int ++ [.str "0"]), .tup ((bs rs r).map D.int ++ [.bl true]), .tup ((bs rs r).map D.int ++ [.tup [.int 0]]), .int 5]

theorem e_w11 (h : Drawn names rs some r) : w11 (callF 60) (LEnv sc x2 (.va (T names)) (.va (R rs)) (.va (T some)) (.va (R1 r)) (.va (T (sortS (clos rs r.1)))) (.va (.bl (so rs r))) (.va (outP (due rs r))) (.va (if so rs r = true then .non else .tup [Dc names fun _ => 0, Dc names (mark (clos rs r.1))])) x11 x12 x13 x14 x15 x16 u17 u18 u19 u20 u21 u22 u23 u24 u25 u26) = pure (.nx (LEnv sc x2 (.va (T names)) (.va (R rs)) (.va (T some)) (.va (R1 r)) (.va (T (sortS (clos rs r.1)))) (.va (.bl (so rs r))) (.va (outP (due rs r))) (.va (if so rs r = true then .non else .tup [Dc names fun _ => 0, Dc names (mark (clos rs r.1))])) x11 (.va (Is (bs rs r))) x13 x14 x15 x16 u17 u18 u19 u20 u21 u22 u23 u24 u25 u26)) := by
  have k4 := notNone_out (due rs r)
  unfold w11
  cases e : (due rs r).isSome with
  | true =>
    have k1 := out_some e
    unfold bs
    rw [e] at k4
    simp [k4]
    exact congrArg (fun d => (pure (Fl.nx (LEnv sc x2 (.va (T names)) (.va (R rs)) (.va (T some)) (.va (R1 r)) (.va (T (sortS (clos rs r.1)))) (.va (.bl (so rs r))) (.va (outP (due rs r))) (.va (if so rs r = true then .non else .tup [Dc names fun _ => 0, Dc names (mark (clos rs r.1))])) x11 (.va d) x13 x14 x15 x16 u17 u18 u19 u20 u21 u22 u23 u24 u25 u26)) : M Fl)) k1
  | false =>
    have k1 := out_none e
    unfold bs
    rw [e] at k4
    simp [k4]
    exact congrArg (fun d => (pure (Fl.nx (LEnv sc x2 (.va (T names)) (.va (R rs)) (.va (T some)) (.va (R1 r)) (.va (T (sortS (clos rs r.1)))) (.va (.bl (so rs r))) (.va (outP (due rs r))) (.va (if so rs r = true then .non else .tup [Dc names fun _ => 0, Dc names (mark (clos rs r.1))])) x11 (.va d) x13 x14 x15 x16 u17 u18 u19 u20 u21 u22 u23 u24 u25 u26)) : M Fl)) k1

theorem t_w12 (h : Drawn names rs some r) : Tr Cup (w12 (callF 60) (LEnv sc x2 (.va (T names)) (.va (R rs)) (.va (T some)) (.va (R1 r)) (.va (T (sortS (clos rs r.1)))) (.va (.bl (so rs r))) (.va (outP (due rs r))) (.va (if so rs r = true then .non else .tup [Dc names fun _ => 0, Dc names (mark (clos rs r.1))])) x11 (.va (Is (bs rs r))) x13 x14 x15 x16 u17 u18 u19 u20 u21 u22 u23 u24 u25 u26)) fun f : Fl => ∃ ρ1, f = .nx ρ1 ∧ ∃ js : List Int, js.length ≤ 5 ∧ ρ1 = (LEnv sc x2 (.va (T names)) (.va (R rs)) (.va (T some)) (.va (R1 r)) (.va (T (sortS (clos rs r.1)))) (.va (.bl (so rs r))) (.va (outP (due rs r))) (.va (if so rs r = true then .non else .tup [Dc names fun _ => 0, Dc names (mark (clos rs r.1))])) x11 (.va (Is (bs rs r))) (.va (.lst (js.map D.int))) x14 x15 x16 u17 u18 u19 u20 u21 u22 u23 u24 u25 u26) := by
  have hl := h.len
  generalize hP : (fun f : Fl => ∃ ρ1, f = .nx ρ1 ∧ ∃ js : List Int, js.length ≤ 5 ∧ ρ1 = (LEnv sc x2 (.va (T names)) (.va (R rs)) (.va (T some)) (.va (R1 r)) (.va (T (sortS (clos rs r.1)))) (.va (.bl (so rs r))) (.va (outP (due rs r))) (.va (if so rs r = true then .non else .tup [Dc names fun _ => 0, Dc names (mark (clos rs r.1))])) x11 (.va (Is (bs rs r))) (.va (.lst (js.map D.int))) x14 x15 x16 u17 u18 u19 u20 u21 u22 u23 u24 u25 u26)) = P
  unfold w12
  simp
  subst hP
  refine Tr.bind (s_roll 59 (m := 5) (by decide) (by decide)) ?_
  rintro d ⟨q, rfl, h0, h1⟩
  obtain ⟨k, rfl⟩ : ∃ k : Nat, q = k := ⟨q.toNat, by omega⟩
  rw [rangeN k (by omega), M.pureb']
  refine Tr.bind (comp_each (Q := fun d => ∃ r : Int, d = .int r) _ fun x hx => ⟨_, rfl, ?_⟩) ?_
  · simp
    refine Tr.mono (s_roll 59 (m := (rs.length : Int) + 1) (by omega) (by omega)) ?_
    rintro d ⟨r, rfl, _⟩
    exact ⟨r, rfl⟩
  · rintro ds ⟨hlen, hq⟩
    obtain ⟨js, rfl⟩ := ints_of hq
    rw [List.length_map, List.length_map, List.length_range] at hlen
    exact Tr.pure ⟨_, rfl, js, by omega, rfl⟩

theorem range_rs (h : Drawn names rs some r) : range1D [.int (rs.length : Nat)] = pure (((List.range rs.length).map fun (i : Nat) => (i : Int)).map D.int) := by
  rw [rangeN rs.length (by have := h.len; omega), List.map_map]; rfl
theorem rep_rs (h : Drawn names rs some r) (is : List Int) (hl : is.length ≤ 40) : mulD (Is is) (.int 3) = pure (Is (List.replicate 3 is).flatten) := by
  show (repD (is.map D.int) 3 >>= fun ys => (pure (D.tup ys) : M D)) = _
  unfold repD
  rw [List.length_map, decide_eq_true (by omega : is.length ≤ 1000)]
  show (pure (D.tup (is.map D.int ++ (is.map D.int ++ (is.map D.int ++ [])))) : M D) = _
  rw [List.append_nil, ← List.map_append, ← List.map_append]
  show _ = (pure (Is (is ++ (is ++ (is ++ [])))) : M D)
  rw [List.append_nil]
theorem e_w13 (h : Drawn names rs some r) (hj : js.length ≤ 5) : w13 (callF 60) (LEnv sc x2 (.va (T names)) (.va (R rs)) (.va (T some)) (.va (R1 r)) (.va (T (sortS (clos rs r.1)))) (.va (.bl (so rs r))) (.va (outP (due rs r))) (.va (if so rs r = true then .non else .tup [Dc names fun _ => 0, Dc names (mark (clos rs r.1))])) x11 (.va (Is (bs rs r))) (.va (.lst (js.map D.int))) x14 x15 x16 u17 u18 u19 u20 u21 u22 u23 u24 u25 u26) = pure (.nx (LEnv sc x2 (.va (T names)) (.va (R rs)) (.va (T some)) (.va (R1 r)) (.va (T (sortS (clos rs r.1)))) (.va (.bl (so rs r))) (.va (outP (due rs r))) (.va (if so rs r = true then .non else .tup [Dc names fun _ => 0, Dc names (mark (clos rs r.1))])) x11 (.va (Is (bs rs r))) (.va (.lst (js.map D.int))) (.va (.lst ((tried rs r js).map Is))) x15 x16 u17 u18 u19 u20 u21 u22 u23 u24 u25 u26)) := by
  have hl := h.len
  have hb := bs_len h
  have k1 := range_rs h
  have k2 := rep_rs h ((List.range rs.length).map fun (i : Nat) => (i : Int)) (by rw [List.length_map, List.length_range]; omega)
  have k3 : addD (Is (bs rs r)) (Is (bs rs r)) = pure (Is (bs rs r ++ bs rs r)) := by
    show fit _ (pure (D.tup ((bs rs r).map D.int ++ (bs rs r).map D.int))) = _
    rw [← List.map_append, List.length_map, fit_le (by unfold LIM; omega)]
  have k4 : cutD (Is (bs rs r)) (.some 1) .none = pure (Is (cut (bs rs r) (.some 1) .none)) := by rw [cutD_tup, cut_map]
  have k5 : cutD (Is (bs rs r)) .none (.some (-1)) = pure (Is (cut (bs rs r) .none (.some (-1)))) := by rw [cutD_tup, cut_map]
  have k6 : revD (Is (bs rs r)) = pure (Is (bs rs r).reverse) := by rw [revD_tup, ← List.map_reverse]
  unfold w13 tried
  simp [k1, k2, k3, k4, k5, k6, -cutD_tup, -revD_tup, -List.map_map]
  rfl

theorem e_w14 (h : Drawn names rs some r) (hj : js.length ≤ 5) : ∃ x15', w14 (callF 60) (LEnv sc x2 (.va (T names)) (.va (R rs)) (.va (T some)) (.va (R1 r)) (.va (T (sortS (clos rs r.1)))) (.va (.bl (so rs r))) (.va (outP (due rs r))) (.va (if so rs r = true then .non else .tup [Dc names fun _ => 0, Dc names (mark (clos rs r.1))])) x11 (.va (Is (bs rs r))) (.va (.lst (js.map D.int))) (.va (.lst ((tried rs r js).map Is))) x15 x16 u17 u18 u19 u20 u21 u22 u23 u24 u25 u26) = pure (.nx (LEnv sc x2 (.va (T names)) (.va (R rs)) (.va (T some)) (.va (R1 r)) (.va (T (sortS (clos rs r.1)))) (.va (.bl (so rs r))) (.va (outP (due rs r))) (.va (if so rs r = true then .non else .tup [Dc names fun _ => 0, Dc names (mark (clos rs r.1))])) x11 (.va (Is (bs rs r))) (.va (.lst (js.map D.int))) (.va (.lst ((tried rs r js).map Is))) x15' x16 u17 u18 u19 u20 u21 u22 u23 u24 u25 u26)) := by
  have ht := tried_len h hj
  have : Ev (w14 (callF 60) (LEnv sc x2 (.va (T names)) (.va (R rs)) (.va (T some)) (.va (R1 r)) (.va (T (sortS (clos rs r.1)))) (.va (.bl (so rs r))) (.va (outP (due rs r))) (.va (if so rs r = true then .non else .tup [Dc names fun _ => 0, Dc names (mark (clos rs r.1))])) x11 (.va (Is (bs rs r))) (.va (.lst (js.map D.int))) (.va (.lst ((tried rs r js).map Is))) x15 x16 u17 u18 u19 u20 u21 u22 u23 u24 u25 u26)) fun f => ∃ x15', f = .nx (LEnv sc x2 (.va (T names)) (.va (R rs)) (.va (T some)) (.va (R1 r)) (.va (T (sortS (clos rs r.1)))) (.va (.bl (so rs r))) (.va (outP (due rs r))) (.va (if so rs r = true then .non else .tup [Dc names fun _ => 0, Dc names (mark (clos rs r.1))])) x11 (.va (Is (bs rs r))) (.va (.lst (js.map D.int))) (.va (.lst ((tried rs r js).map Is))) x15' x16 u17 u18 u19 u20 u21 u22 u23 u24 u25 u26) := by
    unfold w14
    simp
    refine forL_ev (fun xs ρ => ∃ (ts : List (List Int)) (s15 : Sl), xs = ts.map Is ∧ (∀ t ∈ ts, t.length ≤ 40) ∧ ρ = (LEnv sc x2 (.va (T names)) (.va (R rs)) (.va (T some)) (.va (R1 r)) (.va (T (sortS (clos rs r.1)))) (.va (.bl (so rs r))) (.va (outP (due rs r))) (.va (if so rs r = true then .non else .tup [Dc names fun _ => 0, Dc names (mark (clos rs r.1))])) x11 (.va (Is (bs rs r))) (.va (.lst (js.map D.int))) (.va (.lst ((tried rs r js).map Is))) s15 x16 u17 u18 u19 u20 u21 u22 u23 u24 u25 u26)) ?_ ?_ _ _ ⟨tried rs r js, x15, rfl, ht, rfl⟩
    · rintro x xs ρ ⟨ts, s15, e1, hts, rfl⟩
      cases ts with
      | nil => cases e1
      | cons t ts =>
        rw [List.map_cons, List.cons.injEq] at e1
        obtain ⟨rfl, rfl⟩ := e1
        have k1 : callF 60 34 [T names, R rs, R1 r, Is t] = pure (.bl (lproofB rs r t)) := s_is_proof 52 h.w h.ro (hts t List.mem_cons_self) (fun q hq => by have := nodup_len (h.rok q hq).rnd (h.rok q hq).r; have := h.n12; omega) (by have := h.ro.lin.len; have := h.n12; omega)
        have k2 : callF 60 50 [R rs, R1 r, Is t] = pure (.bl (lproofB rs r t)) := s_law_is_proof 59 (hts t List.mem_cons_self) (fun q hq => by have := nodup_len (h.rok q hq).rnd (h.rok q hq).r; have := h.n12; omega) (by have := h.ro.lin.len; have := h.n12; omega)
        have k3 : callF 60 40 [.bl (lproofB rs r t), .bl (lproofB rs r t)] = pure (.bl true) := s_same 0 59 _ rfl
        refine Ev.tnx (ρ := (LEnv sc x2 (.va (T names)) (.va (R rs)) (.va (T some)) (.va (R1 r)) (.va (T (sortS (clos rs r.1)))) (.va (.bl (so rs r))) (.va (outP (due rs r))) (.va (if so rs r = true then .non else .tup [Dc names fun _ => 0, Dc names (mark (clos rs r.1))])) x11 (.va (Is (bs rs r))) (.va (.lst (js.map D.int))) (.va (.lst ((tried rs r js).map Is))) (.va (Is t)) x16 u17 u18 u19 u20 u21 u22 u23 u24 u25 u26)) ?_ ⟨ts, .va (Is t), rfl, fun y hy => hts y (List.mem_cons_of_mem _ hy), rfl⟩
        simp [k1, k2, k3]
    · rintro ρ ⟨ts, s15, e1, hts, rfl⟩
      exact ⟨s15, rfl⟩
  obtain ⟨f, e, x15', rfl⟩ := this
  exact ⟨x15', e⟩

theorem odd_no (h : Drawn names rs some r) : ∀ d ∈ oddL rs r, callF 60 34 [T names, R rs, R1 r, d] = pure (.bl false) := by
  have hp : ∀ (y : D), y.plain = true → whole y 0 ((rs.length : Int) - 1) = false → callF 60 34 [T names, R rs, R1 r, .tup ((bs rs r).map D.int ++ [y])] = pure (.bl false) := fun y h1 h2 =>
    s_is_proof_no 52 h.w h.ro rfl fun ds e => by
      cases e
      refine ⟨fun x hx => ?_, ?_⟩
      · rcases List.mem_append.mp hx with hx | hx
        · obtain ⟨i, _, rfl⟩ := List.mem_map.mp hx
          rfl
        · rw [List.mem_singleton.mp hx]; exact h1
      · rw [List.all_append]
        show (_ && (whole y 0 ((rs.length : Int) - 1) && true)) = false
        rw [h2, Bool.false_and, Bool.and_false]
  intro d hd
  unfold oddL at hd
  simp only [List.mem_cons, List.not_mem_nil, or_false] at hd
  rcases hd with rfl | rfl | rfl | rfl | rfl | rfl | rfl | rfl | rfl
  · exact s_is_proof_no 52 h.w h.ro rfl fun ds e => by cases e
  · exact s_is_proof_no 52 h.w h.ro rfl fun ds e => by cases e
  · exact hp _ rfl rfl
  · refine hp _ rfl ?_
    rw [whole_ok]; unfold okAt; rw [decide_eq_false (by omega : ¬ ((rs.length : Int) < (rs.length : Int))), Bool.and_false]
  · refine hp _ rfl ?_
    rw [whole_ok]; rfl
  · exact hp _ rfl rfl
  · exact hp _ rfl rfl
  · exact hp _ rfl rfl
  · exact s_is_proof_no 52 h.w h.ro rfl fun ds e => by cases e
theorem e_w15 (h : Drawn names rs some r) : w15 (callF 60) (LEnv sc x2 (.va (T names)) (.va (R rs)) (.va (T some)) (.va (R1 r)) (.va (T (sortS (clos rs r.1)))) (.va (.bl (so rs r))) (.va (outP (due rs r))) (.va (if so rs r = true then .non else .tup [Dc names fun _ => 0, Dc names (mark (clos rs r.1))])) x11 (.va (Is (bs rs r))) (.va (.lst (js.map D.int))) (.va (.lst ((tried rs r js).map Is))) x15 x16 u17 u18 u19 u20 u21 u22 u23 u24 u25 u26) = pure (.nx (LEnv sc x2 (.va (T names)) (.va (R rs)) (.va (T some)) (.va (R1 r)) (.va (T (sortS (clos rs r.1)))) (.va (.bl (so rs r))) (.va (outP (due rs r))) (.va (if so rs r = true then .non else .tup [Dc names fun _ => 0, Dc names (mark (clos rs r.1))])) x11 (.va (Is (bs rs r))) (.va (.lst (js.map D.int))) (.va (.lst ((tried rs r js).map Is))) x15 (.va (.lst (oddL rs r))) u17 u18 u19 u20 u21 u22 u23 u24 u25 u26)) := by
  have hb := bs_len h
  have k3 : ∀ y : D, addD (Is (bs rs r)) (.tup [y]) = pure (.tup ((bs rs r).map D.int ++ [y])) := fun y => by
    show fit _ (pure (D.tup ((bs rs r).map D.int ++ [y]))) = _
    rw [List.length_map, fit_le (by unfold LIM; simp; omega)]
  unfold w15 oddL
  simp [k3]

theorem e_w16 (h : Drawn names rs some r) : w16 (callF 60) (LEnv sc x2 (.va (T names)) (.va (R rs)) (.va (T some)) (.va (R1 r)) (.va (T (sortS (clos rs r.1)))) (.va (.bl (so rs r))) (.va (outP (due rs r))) (.va (if so rs r = true then .non else .tup [Dc names fun _ => 0, Dc names (mark (clos rs r.1))])) x11 (.va (Is (bs rs r))) (.va (.lst (js.map D.int))) (.va (.lst ((tried rs r js).map Is))) x15 (.va (.lst (oddL rs r))) u17 u18 u19 u20 u21 u22 u23 u24 u25 u26) = pure (.nx (LEnv sc x2 (.va (T names)) (.va (R rs)) (.va (T some)) (.va (R1 r)) (.va (T (sortS (clos rs r.1)))) (.va (.bl (so rs r))) (.va (outP (due rs r))) (.va (if so rs r = true then .non else .tup [Dc names fun _ => 0, Dc names (mark (clos rs r.1))])) x11 (.va (Is (bs rs r))) (.va (.lst (js.map D.int))) (.va (.lst ((tried rs r js).map Is))) x15 (.va (.lst (oddL rs r))) u17 u18 u19 u20 u21 u22 u23 u24 u25 u26)) := by
  have k1 := comp_none (g := gName 25) (t := tVal (eOp2 isNotBlD (eCall (callF 60 34) (aCons (eVar 3) (aCons (eVar 4) (aCons (eVar 6) (aCons (eVar 25) (aNil)))))) (eLit (.bl false)))) (e := eVar 25) (ρ := (LEnv sc x2 (.va (T names)) (.va (R rs)) (.va (T some)) (.va (R1 r)) (.va (T (sortS (clos rs r.1)))) (.va (.bl (so rs r))) (.va (outP (due rs r))) (.va (if so rs r = true then .non else .tup [Dc names fun _ => 0, Dc names (mark (clos rs r.1))])) x11 (.va (Is (bs rs r))) (.va (.lst (js.map D.int))) (.va (.lst ((tried rs r js).map Is))) x15 (.va (.lst (oddL rs r))) u17 u18 u19 u20 u21 u22 u23 u24 u25 u26).set 25 .no) (xs := oddL rs r) fun x hx => ⟨_, rfl, by
    have := odd_no h x hx
    have k2 : isNotBlD (.bl false) (.bl false) = pure (.bl false) := rfl
    simp [this, k2]⟩
  have k3 := neD_nn
  simp at k1
  unfold w16
  simp [k1, k3]

end
end K82
end

section
set_option Elab.async false
set_option linter.all false
set_option maxRecDepth 100000
set_option autoImplicit false
set_option maxHeartbeats 1000000
namespace K82
open PySem (Str)
open RP
/-- the law's slots, with the cup in its place -/
def LI (ρ : Env) : Prop := ∃ sc x2 x3 x4 x5 x6 x7 x8 x9 x10 x11 x12 x13 x14 x15 x16 u17 u18 u19 u20 u21 u22 u23 u24 u25 u26 : Sl, ρ = LEnv sc x2 x3 x4 x5 x6 x7 x8 x9 x10 x11 x12 x13 x14 x15 x16 u17 u18 u19 u20 u21 u22 u23 u24 u25 u26
theorem t_turn {sc x2 x3 x4 x5 x6 x7 x8 x9 x10 x11 x12 x13 x14 x15 x16 u17 u18 u19 u20 u21 u22 u23 u24 u25 u26 : Sl} : Tr Cup (wbody (callF 60) (LEnv sc x2 x3 x4 x5 x6 x7 x8 x9 x10 x11 x12 x13 x14 x15 x16 u17 u18 u19 u20 u21 u22 u23 u24 u25 u26)) fun f => ∃ ρ1, f = .nx ρ1 ∧ LI ρ1 := by
  unfold wbody
  refine Tr.seq t_w1 ?_
  rintro _ ⟨names, hn, rfl⟩
  refine Tr.seq (t_w2 hn) ?_
  rintro _ ⟨rs, hl, hr, rfl⟩
  refine Tr.seq (t_w3 hn hl hr) ?_
  rintro _ ⟨some, r, h, rfl⟩
  refine Tr.seqE (e_w4 h) ?_
  refine Tr.seqE (e_w5 h) ?_
  refine Tr.seqE (e_w6 h) ?_
  refine Tr.seqE (e_w7 h) ?_
  refine Tr.seqE (e_w8 h) ?_
  refine Tr.seqE (e_w9 h) ?_
  obtain ⟨x11', e10⟩ := e_w10 (sc := sc) (x2 := x2) (x11 := x11) (x12 := x12) (x13 := x13) (x14 := x14) (x15 := x15) (x16 := x16) (u17 := u17) (u18 := u18) (u19 := u19) (u20 := u20) (u21 := u21) (u22 := u22) (u23 := u23) (u24 := u24) (u25 := u25) (u26 := u26) h
  refine Tr.seqE e10 ?_
  refine Tr.seqE (e_w11 h) ?_
  refine Tr.seq (t_w12 h) ?_
  rintro _ ⟨js, hj, rfl⟩
  refine Tr.seqE (e_w13 h hj) ?_
  obtain ⟨x15', e14⟩ := e_w14 (sc := sc) (x2 := x2) (x11 := x11') (x15 := x15) (x16 := x16) (u17 := u17) (u18 := u18) (u19 := u19) (u20 := u20) (u21 := u21) (u22 := u22) (u23 := u23) (u24 := u24) (u25 := u25) (u26 := u26) h hj
  refine Tr.seqE e14 ?_
  refine Tr.seqE (e_w15 h) ?_
  exact Tr.of (e_w16 h) ⟨_, rfl, _, _, _, _, _, _, _, _, _, _, _, _, _, _, _, _, _, _, _, _, _, _, _, _, _, _, rfl⟩
theorem t_turns {ρ : Env} (hρ : LI ρ) : Tr Cup (sFor (lCall range1D (aCons (eLit (.int 5)) (aNil))) (gName 2) (wbody (callF 60)) ρ) fun f => ∃ ρ1, f = .nx ρ1 ∧ LI ρ1 := by
  have hr : range1D [.int 5] = pure [.int 0, .int 1, .int 2, .int 3, .int 4] := rfl
  simp [hr]
  refine forL_tr (fun _ ρ => LI ρ) ?_ ?_ _ _ hρ
  · rintro x xs ρ ⟨sc, x2, x3, x4, x5, x6, x7, x8, x9, x10, x11, x12, x13, x14, x15, x16, u17, u18, u19, u20, u21, u22, u23, u24, u25, u26, rfl⟩
    rw [show gName 2 x (LEnv sc x2 x3 x4 x5 x6 x7 x8 x9 x10 x11 x12 x13 x14 x15 x16 u17 u18 u19 u20 u21 u22 u23 u24 u25 u26) = pure (LEnv sc (.va x) x3 x4 x5 x6 x7 x8 x9 x10 x11 x12 x13 x14 x15 x16 u17 u18 u19 u20 u21 u22 u23 u24 u25 u26) from rfl, M.pureb']
    refine Tr.mono t_turn ?_
    rintro f ⟨ρ1, rfl, h⟩
    exact h
  · exact fun ρ h => ⟨ρ, rfl, h⟩
end K82
end

section
set_option Elab.async false
set_option linter.all false
set_option maxRecDepth 100000
set_option autoImplicit false
set_option maxHeartbeats 4000000
namespace K82
open PySem (Str)
open RP
section
variable {sc x2 x3 x4 x5 x6 x7 x8 x9 x10 x11 x12 x13 x14 x15 x16 u17 u18 u19 u20 u21 u22 u23 u24 u25 u26 : Sl}
theorem t_v3 : Tr Cup (v3 (callF 60) (LEnv sc x2 x3 x4 x5 x6 x7 x8 x9 x10 x11 x12 x13 x14 x15 x16 u17 u18 u19 u20 u21 u22 u23 u24 u25 u26)) fun f => ∃ ρ1, f = .nx ρ1 ∧ ∃ m : Int, 0 ≤ m ∧ m < 6 ∧ ρ1 = (LEnv sc x2 x3 x4 x5 x6 x7 x8 x9 x10 x11 x12 x13 x14 x15 x16 (.va (.int (2 + m))) u18 u19 u20 u21 u22 u23 u24 u25 u26) := by
  generalize hP : (fun f : Fl => ∃ ρ1, f = .nx ρ1 ∧ ∃ m : Int, 0 ≤ m ∧ m < 6 ∧ ρ1 = (LEnv sc x2 x3 x4 x5 x6 x7 x8 x9 x10 x11 x12 x13 x14 x15 x16 (.va (.int (2 + m))) u18 u19 u20 u21 u22 u23 u24 u25 u26)) = P
  unfold v3
  simp
  subst hP
  refine Tr.bind (s_roll 59 (m := 6) (by decide) (by decide)) ?_
  rintro d ⟨r, rfl, h0, h1⟩
  exact Tr.pure ⟨_, rfl, r, h0, h1, rfl⟩

theorem e_v4_2 : v4 (callF 60) (LEnv sc x2 x3 x4 x5 x6 x7 x8 x9 x10 x11 x12 x13 x14 x15 x16 (.va (.int 2)) u18 u19 u20 u21 u22 u23 u24 u25 u26) = pure (.nx (LEnv sc x2 (.va (T ["n0", "n1"])) x4 x5 x6 x7 x8 x9 x10 x11 x12 x13 x14 x15 x16 (.va (.int 2)) u18 u19 u20 u21 u22 u23 u24 u25 u26)) := by rfl
theorem e_v5_2 : v5 (callF 60) (LEnv sc x2 (.va (T ["n0", "n1"])) x4 x5 x6 x7 x8 x9 x10 x11 x12 x13 x14 x15 x16 (.va (.int 2)) u18 u19 u20 u21 u22 u23 u24 u25 u26) = pure (.nx (LEnv sc x2 (.va (T ["n0", "n1"])) x4 x5 x6 x7 x8 x9 x10 x11 x12 x13 x14 x15 x16 (.va (.int 2)) (.va (.tup [.tup [.tup [.str "n0"], .tup [.str "n1"]]])) u19 u20 u21 u22 u23 u24 u25 u26)) := by rfl
theorem t_v6_2 : Tr Cup (v6 (callF 60) (LEnv sc x2 (.va (T ["n0", "n1"])) x4 x5 x6 x7 x8 x9 x10 x11 x12 x13 x14 x15 x16 (.va (.int 2)) (.va (.tup [.tup [.tup [.str "n0"], .tup [.str "n1"]]])) u19 u20 u21 u22 u23 u24 u25 u26)) fun f => ∃ ρ1, f = .nx ρ1 ∧ ∃ m : Int, 0 ≤ m ∧ m < 1 ∧ ρ1 = (LEnv sc x2 (.va (T ["n0", "n1"])) x4 x5 x6 x7 x8 x9 x10 x11 x12 x13 x14 x15 x16 (.va (.int 2)) (.va (.tup [.tup [.tup [.str "n0"], .tup [.str "n1"]]])) (.va (.int m)) u20 u21 u22 u23 u24 u25 u26) := by
  have hs : subD (.int 2) (.int 1) = pure (.int 1) := rfl
  generalize hP : (fun f : Fl => ∃ ρ1, f = .nx ρ1 ∧ ∃ m : Int, 0 ≤ m ∧ m < 1 ∧ ρ1 = (LEnv sc x2 (.va (T ["n0", "n1"])) x4 x5 x6 x7 x8 x9 x10 x11 x12 x13 x14 x15 x16 (.va (.int 2)) (.va (.tup [.tup [.tup [.str "n0"], .tup [.str "n1"]]])) (.va (.int m)) u20 u21 u22 u23 u24 u25 u26)) = P
  unfold v6
  simp [hs]
  subst hP
  refine Tr.bind (s_roll 59 (m := 1) (by decide) (by decide)) ?_
  rintro d ⟨r, rfl, h0, h1⟩
  exact Tr.pure ⟨_, rfl, r, h0, h1, rfl⟩

theorem e_end_2_0 : (sSeq (v7 (callF 60)) (sSeq (v8 (callF 60)) (sSeq (v9 (callF 60)) (v10 (callF 60))))) (LEnv sc x2 (.va (T ["n0", "n1"])) x4 x5 x6 x7 x8 x9 x10 x11 x12 x13 x14 x15 x16 (.va (.int 2)) (.va (.tup [.tup [.tup [.str "n0"], .tup [.str "n1"]]])) (.va (.int 0)) u20 u21 u22 u23 u24 u25 u26) = pure (.rt (.bl true)) := by rfl

theorem t_end_2 : Tr Cup ((sSeq (v4 (callF 60)) (sSeq (v5 (callF 60)) (sSeq (v6 (callF 60)) (sSeq (v7 (callF 60)) (sSeq (v8 (callF 60)) (sSeq (v9 (callF 60)) (v10 (callF 60)))))))) (LEnv sc x2 x3 x4 x5 x6 x7 x8 x9 x10 x11 x12 x13 x14 x15 x16 (.va (.int 2)) u18 u19 u20 u21 u22 u23 u24 u25 u26)) fun f => f = .rt (.bl true) := by
  refine Tr.seqE e_v4_2 ?_
  refine Tr.seqE e_v5_2 ?_
  refine Tr.seq t_v6_2 ?_
  rintro _ ⟨m, h0, h1, rfl⟩
  have hm : m = 0 := by omega
  rcases hm with rfl
  · exact Tr.of e_end_2_0 rfl

theorem e_v4_3 : v4 (callF 60) (LEnv sc x2 x3 x4 x5 x6 x7 x8 x9 x10 x11 x12 x13 x14 x15 x16 (.va (.int 3)) u18 u19 u20 u21 u22 u23 u24 u25 u26) = pure (.nx (LEnv sc x2 (.va (T ["n0", "n1", "n2"])) x4 x5 x6 x7 x8 x9 x10 x11 x12 x13 x14 x15 x16 (.va (.int 3)) u18 u19 u20 u21 u22 u23 u24 u25 u26)) := by rfl
theorem e_v5_3 : v5 (callF 60) (LEnv sc x2 (.va (T ["n0", "n1", "n2"])) x4 x5 x6 x7 x8 x9 x10 x11 x12 x13 x14 x15 x16 (.va (.int 3)) u18 u19 u20 u21 u22 u23 u24 u25 u26) = pure (.nx (LEnv sc x2 (.va (T ["n0", "n1", "n2"])) x4 x5 x6 x7 x8 x9 x10 x11 x12 x13 x14 x15 x16 (.va (.int 3)) (.va (.tup [.tup [.tup [.str "n1"], .tup [.str "n2"]], .tup [.tup [.str "n0"], .tup [.str "n1"]]])) u19 u20 u21 u22 u23 u24 u25 u26)) := by rfl
theorem t_v6_3 : Tr Cup (v6 (callF 60) (LEnv sc x2 (.va (T ["n0", "n1", "n2"])) x4 x5 x6 x7 x8 x9 x10 x11 x12 x13 x14 x15 x16 (.va (.int 3)) (.va (.tup [.tup [.tup [.str "n1"], .tup [.str "n2"]], .tup [.tup [.str "n0"], .tup [.str "n1"]]])) u19 u20 u21 u22 u23 u24 u25 u26)) fun f => ∃ ρ1, f = .nx ρ1 ∧ ∃ m : Int, 0 ≤ m ∧ m < 2 ∧ ρ1 = (LEnv sc x2 (.va (T ["n0", "n1", "n2"])) x4 x5 x6 x7 x8 x9 x10 x11 x12 x13 x14 x15 x16 (.va (.int 3)) (.va (.tup [.tup [.tup [.str "n1"], .tup [.str "n2"]], .tup [.tup [.str "n0"], .tup [.str "n1"]]])) (.va (.int m)) u20 u21 u22 u23 u24 u25 u26) := by
  have hs : subD (.int 3) (.int 1) = pure (.int 2) := rfl
  generalize hP : (fun f : Fl => ∃ ρ1, f = .nx ρ1 ∧ ∃ m : Int, 0 ≤ m ∧ m < 2 ∧ ρ1 = (LEnv sc x2 (.va (T ["n0", "n1", "n2"])) x4 x5 x6 x7 x8 x9 x10 x11 x12 x13 x14 x15 x16 (.va (.int 3)) (.va (.tup [.tup [.tup [.str "n1"], .tup [.str "n2"]], .tup [.tup [.str "n0"], .tup [.str "n1"]]])) (.va (.int m)) u20 u21 u22 u23 u24 u25 u26)) = P
  unfold v6
  simp [hs]
  subst hP
  refine Tr.bind (s_roll 59 (m := 2) (by decide) (by decide)) ?_
  rintro d ⟨r, rfl, h0, h1⟩
  exact Tr.pure ⟨_, rfl, r, h0, h1, rfl⟩

theorem e_end_3_0 : (sSeq (v7 (callF 60)) (sSeq (v8 (callF 60)) (sSeq (v9 (callF 60)) (v10 (callF 60))))) (LEnv sc x2 (.va (T ["n0", "n1", "n2"])) x4 x5 x6 x7 x8 x9 x10 x11 x12 x13 x14 x15 x16 (.va (.int 3)) (.va (.tup [.tup [.tup [.str "n1"], .tup [.str "n2"]], .tup [.tup [.str "n0"], .tup [.str "n1"]]])) (.va (.int 0)) u20 u21 u22 u23 u24 u25 u26) = pure (.rt (.bl true)) := by rfl

theorem e_end_3_1 : (sSeq (v7 (callF 60)) (sSeq (v8 (callF 60)) (sSeq (v9 (callF 60)) (v10 (callF 60))))) (LEnv sc x2 (.va (T ["n0", "n1", "n2"])) x4 x5 x6 x7 x8 x9 x10 x11 x12 x13 x14 x15 x16 (.va (.int 3)) (.va (.tup [.tup [.tup [.str "n1"], .tup [.str "n2"]], .tup [.tup [.str "n0"], .tup [.str "n1"]]])) (.va (.int 1)) u20 u21 u22 u23 u24 u25 u26) = pure (.rt (.bl true)) := by rfl

theorem t_end_3 : Tr Cup ((sSeq (v4 (callF 60)) (sSeq (v5 (callF 60)) (sSeq (v6 (callF 60)) (sSeq (v7 (callF 60)) (sSeq (v8 (callF 60)) (sSeq (v9 (callF 60)) (v10 (callF 60)))))))) (LEnv sc x2 x3 x4 x5 x6 x7 x8 x9 x10 x11 x12 x13 x14 x15 x16 (.va (.int 3)) u18 u19 u20 u21 u22 u23 u24 u25 u26)) fun f => f = .rt (.bl true) := by
  refine Tr.seqE e_v4_3 ?_
  refine Tr.seqE e_v5_3 ?_
  refine Tr.seq t_v6_3 ?_
  rintro _ ⟨m, h0, h1, rfl⟩
  have hm : m = 0 ∨ m = 1 := by omega
  rcases hm with rfl | rfl
  · exact Tr.of e_end_3_0 rfl
  · exact Tr.of e_end_3_1 rfl

theorem e_v4_4 : v4 (callF 60) (LEnv sc x2 x3 x4 x5 x6 x7 x8 x9 x10 x11 x12 x13 x14 x15 x16 (.va (.int 4)) u18 u19 u20 u21 u22 u23 u24 u25 u26) = pure (.nx (LEnv sc x2 (.va (T ["n0", "n1", "n2", "n3"])) x4 x5 x6 x7 x8 x9 x10 x11 x12 x13 x14 x15 x16 (.va (.int 4)) u18 u19 u20 u21 u22 u23 u24 u25 u26)) := by rfl
theorem e_v5_4 : v5 (callF 60) (LEnv sc x2 (.va (T ["n0", "n1", "n2", "n3"])) x4 x5 x6 x7 x8 x9 x10 x11 x12 x13 x14 x15 x16 (.va (.int 4)) u18 u19 u20 u21 u22 u23 u24 u25 u26) = pure (.nx (LEnv sc x2 (.va (T ["n0", "n1", "n2", "n3"])) x4 x5 x6 x7 x8 x9 x10 x11 x12 x13 x14 x15 x16 (.va (.int 4)) (.va (.tup [.tup [.tup [.str "n2"], .tup [.str "n3"]], .tup [.tup [.str "n1"], .tup [.str "n2"]], .tup [.tup [.str "n0"], .tup [.str "n1"]]])) u19 u20 u21 u22 u23 u24 u25 u26)) := by rfl
theorem t_v6_4 : Tr Cup (v6 (callF 60) (LEnv sc x2 (.va (T ["n0", "n1", "n2", "n3"])) x4 x5 x6 x7 x8 x9 x10 x11 x12 x13 x14 x15 x16 (.va (.int 4)) (.va (.tup [.tup [.tup [.str "n2"], .tup [.str "n3"]], .tup [.tup [.str "n1"], .tup [.str "n2"]], .tup [.tup [.str "n0"], .tup [.str "n1"]]])) u19 u20 u21 u22 u23 u24 u25 u26)) fun f => ∃ ρ1, f = .nx ρ1 ∧ ∃ m : Int, 0 ≤ m ∧ m < 3 ∧ ρ1 = (LEnv sc x2 (.va (T ["n0", "n1", "n2", "n3"])) x4 x5 x6 x7 x8 x9 x10 x11 x12 x13 x14 x15 x16 (.va (.int 4)) (.va (.tup [.tup [.tup [.str "n2"], .tup [.str "n3"]], .tup [.tup [.str "n1"], .tup [.str "n2"]], .tup [.tup [.str "n0"], .tup [.str "n1"]]])) (.va (.int m)) u20 u21 u22 u23 u24 u25 u26) := by
  have hs : subD (.int 4) (.int 1) = pure (.int 3) := rfl
  generalize hP : (fun f : Fl => ∃ ρ1, f = .nx ρ1 ∧ ∃ m : Int, 0 ≤ m ∧ m < 3 ∧ ρ1 = (LEnv sc x2 (.va (T ["n0", "n1", "n2", "n3"])) x4 x5 x6 x7 x8 x9 x10 x11 x12 x13 x14 x15 x16 (.va (.int 4)) (.va (.tup [.tup [.tup [.str "n2"], .tup [.str "n3"]], .tup [.tup [.str "n1"], .tup [.str "n2"]], .tup [.tup [.str "n0"], .tup [.str "n1"]]])) (.va (.int m)) u20 u21 u22 u23 u24 u25 u26)) = P
  unfold v6
  simp [hs]
  subst hP
  refine Tr.bind (s_roll 59 (m := 3) (by decide) (by decide)) ?_
  rintro d ⟨r, rfl, h0, h1⟩
  exact Tr.pure ⟨_, rfl, r, h0, h1, rfl⟩

theorem e_end_4_0 : (sSeq (v7 (callF 60)) (sSeq (v8 (callF 60)) (sSeq (v9 (callF 60)) (v10 (callF 60))))) (LEnv sc x2 (.va (T ["n0", "n1", "n2", "n3"])) x4 x5 x6 x7 x8 x9 x10 x11 x12 x13 x14 x15 x16 (.va (.int 4)) (.va (.tup [.tup [.tup [.str "n2"], .tup [.str "n3"]], .tup [.tup [.str "n1"], .tup [.str "n2"]], .tup [.tup [.str "n0"], .tup [.str "n1"]]])) (.va (.int 0)) u20 u21 u22 u23 u24 u25 u26) = pure (.rt (.bl true)) := by rfl

theorem e_end_4_1 : (sSeq (v7 (callF 60)) (sSeq (v8 (callF 60)) (sSeq (v9 (callF 60)) (v10 (callF 60))))) (LEnv sc x2 (.va (T ["n0", "n1", "n2", "n3"])) x4 x5 x6 x7 x8 x9 x10 x11 x12 x13 x14 x15 x16 (.va (.int 4)) (.va (.tup [.tup [.tup [.str "n2"], .tup [.str "n3"]], .tup [.tup [.str "n1"], .tup [.str "n2"]], .tup [.tup [.str "n0"], .tup [.str "n1"]]])) (.va (.int 1)) u20 u21 u22 u23 u24 u25 u26) = pure (.rt (.bl true)) := by rfl

theorem e_end_4_2 : (sSeq (v7 (callF 60)) (sSeq (v8 (callF 60)) (sSeq (v9 (callF 60)) (v10 (callF 60))))) (LEnv sc x2 (.va (T ["n0", "n1", "n2", "n3"])) x4 x5 x6 x7 x8 x9 x10 x11 x12 x13 x14 x15 x16 (.va (.int 4)) (.va (.tup [.tup [.tup [.str "n2"], .tup [.str "n3"]], .tup [.tup [.str "n1"], .tup [.str "n2"]], .tup [.tup [.str "n0"], .tup [.str "n1"]]])) (.va (.int 2)) u20 u21 u22 u23 u24 u25 u26) = pure (.rt (.bl true)) := by rfl

theorem t_end_4 : Tr Cup ((sSeq (v4 (callF 60)) (sSeq (v5 (callF 60)) (sSeq (v6 (callF 60)) (sSeq (v7 (callF 60)) (sSeq (v8 (callF 60)) (sSeq (v9 (callF 60)) (v10 (callF 60)))))))) (LEnv sc x2 x3 x4 x5 x6 x7 x8 x9 x10 x11 x12 x13 x14 x15 x16 (.va (.int 4)) u18 u19 u20 u21 u22 u23 u24 u25 u26)) fun f => f = .rt (.bl true) := by
  refine Tr.seqE e_v4_4 ?_
  refine Tr.seqE e_v5_4 ?_
  refine Tr.seq t_v6_4 ?_
  rintro _ ⟨m, h0, h1, rfl⟩
  have hm : m = 0 ∨ m = 1 ∨ m = 2 := by omega
  rcases hm with rfl | rfl | rfl
  · exact Tr.of e_end_4_0 rfl
  · exact Tr.of e_end_4_1 rfl
  · exact Tr.of e_end_4_2 rfl

theorem e_v4_5 : v4 (callF 60) (LEnv sc x2 x3 x4 x5 x6 x7 x8 x9 x10 x11 x12 x13 x14 x15 x16 (.va (.int 5)) u18 u19 u20 u21 u22 u23 u24 u25 u26) = pure (.nx (LEnv sc x2 (.va (T ["n0", "n1", "n2", "n3", "n4"])) x4 x5 x6 x7 x8 x9 x10 x11 x12 x13 x14 x15 x16 (.va (.int 5)) u18 u19 u20 u21 u22 u23 u24 u25 u26)) := by rfl
theorem e_v5_5 : v5 (callF 60) (LEnv sc x2 (.va (T ["n0", "n1", "n2", "n3", "n4"])) x4 x5 x6 x7 x8 x9 x10 x11 x12 x13 x14 x15 x16 (.va (.int 5)) u18 u19 u20 u21 u22 u23 u24 u25 u26) = pure (.nx (LEnv sc x2 (.va (T ["n0", "n1", "n2", "n3", "n4"])) x4 x5 x6 x7 x8 x9 x10 x11 x12 x13 x14 x15 x16 (.va (.int 5)) (.va (.tup [.tup [.tup [.str "n3"], .tup [.str "n4"]], .tup [.tup [.str "n2"], .tup [.str "n3"]], .tup [.tup [.str "n1"], .tup [.str "n2"]], .tup [.tup [.str "n0"], .tup [.str "n1"]]])) u19 u20 u21 u22 u23 u24 u25 u26)) := by rfl
theorem t_v6_5 : Tr Cup (v6 (callF 60) (LEnv sc x2 (.va (T ["n0", "n1", "n2", "n3", "n4"])) x4 x5 x6 x7 x8 x9 x10 x11 x12 x13 x14 x15 x16 (.va (.int 5)) (.va (.tup [.tup [.tup [.str "n3"], .tup [.str "n4"]], .tup [.tup [.str "n2"], .tup [.str "n3"]], .tup [.tup [.str "n1"], .tup [.str "n2"]], .tup [.tup [.str "n0"], .tup [.str "n1"]]])) u19 u20 u21 u22 u23 u24 u25 u26)) fun f => ∃ ρ1, f = .nx ρ1 ∧ ∃ m : Int, 0 ≤ m ∧ m < 4 ∧ ρ1 = (LEnv sc x2 (.va (T ["n0", "n1", "n2", "n3", "n4"])) x4 x5 x6 x7 x8 x9 x10 x11 x12 x13 x14 x15 x16 (.va (.int 5)) (.va (.tup [.tup [.tup [.str "n3"], .tup [.str "n4"]], .tup [.tup [.str "n2"], .tup [.str "n3"]], .tup [.tup [.str "n1"], .tup [.str "n2"]], .tup [.tup [.str "n0"], .tup [.str "n1"]]])) (.va (.int m)) u20 u21 u22 u23 u24 u25 u26) := by
  have hs : subD (.int 5) (.int 1) = pure (.int 4) := rfl
  generalize hP : (fun f : Fl => ∃ ρ1, f = .nx ρ1 ∧ ∃ m : Int, 0 ≤ m ∧ m < 4 ∧ ρ1 = (LEnv sc x2 (.va (T ["n0", "n1", "n2", "n3", "n4"])) x4 x5 x6 x7 x8 x9 x10 x11 x12 x13 x14 x15 x16 (.va (.int 5)) (.va (.tup [.tup [.tup [.str "n3"], .tup [.str "n4"]], .tup [.tup [.str "n2"], .tup [.str "n3"]], .tup [.tup [.str "n1"], .tup [.str "n2"]], .tup [.tup [.str "n0"], .tup [.str "n1"]]])) (.va (.int m)) u20 u21 u22 u23 u24 u25 u26)) = P
  unfold v6
  simp [hs]
  subst hP
  refine Tr.bind (s_roll 59 (m := 4) (by decide) (by decide)) ?_
  rintro d ⟨r, rfl, h0, h1⟩
  exact Tr.pure ⟨_, rfl, r, h0, h1, rfl⟩

theorem e_end_5_0 : (sSeq (v7 (callF 60)) (sSeq (v8 (callF 60)) (sSeq (v9 (callF 60)) (v10 (callF 60))))) (LEnv sc x2 (.va (T ["n0", "n1", "n2", "n3", "n4"])) x4 x5 x6 x7 x8 x9 x10 x11 x12 x13 x14 x15 x16 (.va (.int 5)) (.va (.tup [.tup [.tup [.str "n3"], .tup [.str "n4"]], .tup [.tup [.str "n2"], .tup [.str "n3"]], .tup [.tup [.str "n1"], .tup [.str "n2"]], .tup [.tup [.str "n0"], .tup [.str "n1"]]])) (.va (.int 0)) u20 u21 u22 u23 u24 u25 u26) = pure (.rt (.bl true)) := by rfl

theorem e_end_5_1 : (sSeq (v7 (callF 60)) (sSeq (v8 (callF 60)) (sSeq (v9 (callF 60)) (v10 (callF 60))))) (LEnv sc x2 (.va (T ["n0", "n1", "n2", "n3", "n4"])) x4 x5 x6 x7 x8 x9 x10 x11 x12 x13 x14 x15 x16 (.va (.int 5)) (.va (.tup [.tup [.tup [.str "n3"], .tup [.str "n4"]], .tup [.tup [.str "n2"], .tup [.str "n3"]], .tup [.tup [.str "n1"], .tup [.str "n2"]], .tup [.tup [.str "n0"], .tup [.str "n1"]]])) (.va (.int 1)) u20 u21 u22 u23 u24 u25 u26) = pure (.rt (.bl true)) := by rfl

theorem e_end_5_2 : (sSeq (v7 (callF 60)) (sSeq (v8 (callF 60)) (sSeq (v9 (callF 60)) (v10 (callF 60))))) (LEnv sc x2 (.va (T ["n0", "n1", "n2", "n3", "n4"])) x4 x5 x6 x7 x8 x9 x10 x11 x12 x13 x14 x15 x16 (.va (.int 5)) (.va (.tup [.tup [.tup [.str "n3"], .tup [.str "n4"]], .tup [.tup [.str "n2"], .tup [.str "n3"]], .tup [.tup [.str "n1"], .tup [.str "n2"]], .tup [.tup [.str "n0"], .tup [.str "n1"]]])) (.va (.int 2)) u20 u21 u22 u23 u24 u25 u26) = pure (.rt (.bl true)) := by rfl

theorem e_end_5_3 : (sSeq (v7 (callF 60)) (sSeq (v8 (callF 60)) (sSeq (v9 (callF 60)) (v10 (callF 60))))) (LEnv sc x2 (.va (T ["n0", "n1", "n2", "n3", "n4"])) x4 x5 x6 x7 x8 x9 x10 x11 x12 x13 x14 x15 x16 (.va (.int 5)) (.va (.tup [.tup [.tup [.str "n3"], .tup [.str "n4"]], .tup [.tup [.str "n2"], .tup [.str "n3"]], .tup [.tup [.str "n1"], .tup [.str "n2"]], .tup [.tup [.str "n0"], .tup [.str "n1"]]])) (.va (.int 3)) u20 u21 u22 u23 u24 u25 u26) = pure (.rt (.bl true)) := by rfl

theorem t_end_5 : Tr Cup ((sSeq (v4 (callF 60)) (sSeq (v5 (callF 60)) (sSeq (v6 (callF 60)) (sSeq (v7 (callF 60)) (sSeq (v8 (callF 60)) (sSeq (v9 (callF 60)) (v10 (callF 60)))))))) (LEnv sc x2 x3 x4 x5 x6 x7 x8 x9 x10 x11 x12 x13 x14 x15 x16 (.va (.int 5)) u18 u19 u20 u21 u22 u23 u24 u25 u26)) fun f => f = .rt (.bl true) := by
  refine Tr.seqE e_v4_5 ?_
  refine Tr.seqE e_v5_5 ?_
  refine Tr.seq t_v6_5 ?_
  rintro _ ⟨m, h0, h1, rfl⟩
  have hm : m = 0 ∨ m = 1 ∨ m = 2 ∨ m = 3 := by omega
  rcases hm with rfl | rfl | rfl | rfl
  · exact Tr.of e_end_5_0 rfl
  · exact Tr.of e_end_5_1 rfl
  · exact Tr.of e_end_5_2 rfl
  · exact Tr.of e_end_5_3 rfl

theorem e_v4_6 : v4 (callF 60) (LEnv sc x2 x3 x4 x5 x6 x7 x8 x9 x10 x11 x12 x13 x14 x15 x16 (.va (.int 6)) u18 u19 u20 u21 u22 u23 u24 u25 u26) = pure (.nx (LEnv sc x2 (.va (T ["n0", "n1", "n2", "n3", "n4", "n5"])) x4 x5 x6 x7 x8 x9 x10 x11 x12 x13 x14 x15 x16 (.va (.int 6)) u18 u19 u20 u21 u22 u23 u24 u25 u26)) := by rfl
theorem e_v5_6 : v5 (callF 60) (LEnv sc x2 (.va (T ["n0", "n1", "n2", "n3", "n4", "n5"])) x4 x5 x6 x7 x8 x9 x10 x11 x12 x13 x14 x15 x16 (.va (.int 6)) u18 u19 u20 u21 u22 u23 u24 u25 u26) = pure (.nx (LEnv sc x2 (.va (T ["n0", "n1", "n2", "n3", "n4", "n5"])) x4 x5 x6 x7 x8 x9 x10 x11 x12 x13 x14 x15 x16 (.va (.int 6)) (.va (.tup [.tup [.tup [.str "n4"], .tup [.str "n5"]], .tup [.tup [.str "n3"], .tup [.str "n4"]], .tup [.tup [.str "n2"], .tup [.str "n3"]], .tup [.tup [.str "n1"], .tup [.str "n2"]], .tup [.tup [.str "n0"], .tup [.str "n1"]]])) u19 u20 u21 u22 u23 u24 u25 u26)) := by rfl
theorem t_v6_6 : Tr Cup (v6 (callF 60) (LEnv sc x2 (.va (T ["n0", "n1", "n2", "n3", "n4", "n5"])) x4 x5 x6 x7 x8 x9 x10 x11 x12 x13 x14 x15 x16 (.va (.int 6)) (.va (.tup [.tup [.tup [.str "n4"], .tup [.str "n5"]], .tup [.tup [.str "n3"], .tup [.str "n4"]], .tup [.tup [.str "n2"], .tup [.str "n3"]], .tup [.tup [.str "n1"], .tup [.str "n2"]], .tup [.tup [.str "n0"], .tup [.str "n1"]]])) u19 u20 u21 u22 u23 u24 u25 u26)) fun f => ∃ ρ1, f = .nx ρ1 ∧ ∃ m : Int, 0 ≤ m ∧ m < 5 ∧ ρ1 = (LEnv sc x2 (.va (T ["n0", "n1", "n2", "n3", "n4", "n5"])) x4 x5 x6 x7 x8 x9 x10 x11 x12 x13 x14 x15 x16 (.va (.int 6)) (.va (.tup [.tup [.tup [.str "n4"], .tup [.str "n5"]], .tup [.tup [.str "n3"], .tup [.str "n4"]], .tup [.tup [.str "n2"], .tup [.str "n3"]], .tup [.tup [.str "n1"], .tup [.str "n2"]], .tup [.tup [.str "n0"], .tup [.str "n1"]]])) (.va (.int m)) u20 u21 u22 u23 u24 u25 u26) := by
  have hs : subD (.int 6) (.int 1) = pure (.int 5) := rfl
  generalize hP : (fun f : Fl => ∃ ρ1, f = .nx ρ1 ∧ ∃ m : Int, 0 ≤ m ∧ m < 5 ∧ ρ1 = (LEnv sc x2 (.va (T ["n0", "n1", "n2", "n3", "n4", "n5"])) x4 x5 x6 x7 x8 x9 x10 x11 x12 x13 x14 x15 x16 (.va (.int 6)) (.va (.tup [.tup [.tup [.str "n4"], .tup [.str "n5"]], .tup [.tup [.str "n3"], .tup [.str "n4"]], .tup [.tup [.str "n2"], .tup [.str "n3"]], .tup [.tup [.str "n1"], .tup [.str "n2"]], .tup [.tup [.str "n0"], .tup [.str "n1"]]])) (.va (.int m)) u20 u21 u22 u23 u24 u25 u26)) = P
  unfold v6
  simp [hs]
  subst hP
  refine Tr.bind (s_roll 59 (m := 5) (by decide) (by decide)) ?_
  rintro d ⟨r, rfl, h0, h1⟩
  exact Tr.pure ⟨_, rfl, r, h0, h1, rfl⟩

theorem e_end_6_0 : (sSeq (v7 (callF 60)) (sSeq (v8 (callF 60)) (sSeq (v9 (callF 60)) (v10 (callF 60))))) (LEnv sc x2 (.va (T ["n0", "n1", "n2", "n3", "n4", "n5"])) x4 x5 x6 x7 x8 x9 x10 x11 x12 x13 x14 x15 x16 (.va (.int 6)) (.va (.tup [.tup [.tup [.str "n4"], .tup [.str "n5"]], .tup [.tup [.str "n3"], .tup [.str "n4"]], .tup [.tup [.str "n2"], .tup [.str "n3"]], .tup [.tup [.str "n1"], .tup [.str "n2"]], .tup [.tup [.str "n0"], .tup [.str "n1"]]])) (.va (.int 0)) u20 u21 u22 u23 u24 u25 u26) = pure (.rt (.bl true)) := by rfl

theorem e_end_6_1 : (sSeq (v7 (callF 60)) (sSeq (v8 (callF 60)) (sSeq (v9 (callF 60)) (v10 (callF 60))))) (LEnv sc x2 (.va (T ["n0", "n1", "n2", "n3", "n4", "n5"])) x4 x5 x6 x7 x8 x9 x10 x11 x12 x13 x14 x15 x16 (.va (.int 6)) (.va (.tup [.tup [.tup [.str "n4"], .tup [.str "n5"]], .tup [.tup [.str "n3"], .tup [.str "n4"]], .tup [.tup [.str "n2"], .tup [.str "n3"]], .tup [.tup [.str "n1"], .tup [.str "n2"]], .tup [.tup [.str "n0"], .tup [.str "n1"]]])) (.va (.int 1)) u20 u21 u22 u23 u24 u25 u26) = pure (.rt (.bl true)) := by rfl

theorem e_end_6_2 : (sSeq (v7 (callF 60)) (sSeq (v8 (callF 60)) (sSeq (v9 (callF 60)) (v10 (callF 60))))) (LEnv sc x2 (.va (T ["n0", "n1", "n2", "n3", "n4", "n5"])) x4 x5 x6 x7 x8 x9 x10 x11 x12 x13 x14 x15 x16 (.va (.int 6)) (.va (.tup [.tup [.tup [.str "n4"], .tup [.str "n5"]], .tup [.tup [.str "n3"], .tup [.str "n4"]], .tup [.tup [.str "n2"], .tup [.str "n3"]], .tup [.tup [.str "n1"], .tup [.str "n2"]], .tup [.tup [.str "n0"], .tup [.str "n1"]]])) (.va (.int 2)) u20 u21 u22 u23 u24 u25 u26) = pure (.rt (.bl true)) := by rfl

theorem e_end_6_3 : (sSeq (v7 (callF 60)) (sSeq (v8 (callF 60)) (sSeq (v9 (callF 60)) (v10 (callF 60))))) (LEnv sc x2 (.va (T ["n0", "n1", "n2", "n3", "n4", "n5"])) x4 x5 x6 x7 x8 x9 x10 x11 x12 x13 x14 x15 x16 (.va (.int 6)) (.va (.tup [.tup [.tup [.str "n4"], .tup [.str "n5"]], .tup [.tup [.str "n3"], .tup [.str "n4"]], .tup [.tup [.str "n2"], .tup [.str "n3"]], .tup [.tup [.str "n1"], .tup [.str "n2"]], .tup [.tup [.str "n0"], .tup [.str "n1"]]])) (.va (.int 3)) u20 u21 u22 u23 u24 u25 u26) = pure (.rt (.bl true)) := by rfl

theorem e_end_6_4 : (sSeq (v7 (callF 60)) (sSeq (v8 (callF 60)) (sSeq (v9 (callF 60)) (v10 (callF 60))))) (LEnv sc x2 (.va (T ["n0", "n1", "n2", "n3", "n4", "n5"])) x4 x5 x6 x7 x8 x9 x10 x11 x12 x13 x14 x15 x16 (.va (.int 6)) (.va (.tup [.tup [.tup [.str "n4"], .tup [.str "n5"]], .tup [.tup [.str "n3"], .tup [.str "n4"]], .tup [.tup [.str "n2"], .tup [.str "n3"]], .tup [.tup [.str "n1"], .tup [.str "n2"]], .tup [.tup [.str "n0"], .tup [.str "n1"]]])) (.va (.int 4)) u20 u21 u22 u23 u24 u25 u26) = pure (.rt (.bl true)) := by rfl

theorem t_end_6 : Tr Cup ((sSeq (v4 (callF 60)) (sSeq (v5 (callF 60)) (sSeq (v6 (callF 60)) (sSeq (v7 (callF 60)) (sSeq (v8 (callF 60)) (sSeq (v9 (callF 60)) (v10 (callF 60)))))))) (LEnv sc x2 x3 x4 x5 x6 x7 x8 x9 x10 x11 x12 x13 x14 x15 x16 (.va (.int 6)) u18 u19 u20 u21 u22 u23 u24 u25 u26)) fun f => f = .rt (.bl true) := by
  refine Tr.seqE e_v4_6 ?_
  refine Tr.seqE e_v5_6 ?_
  refine Tr.seq t_v6_6 ?_
  rintro _ ⟨m, h0, h1, rfl⟩
  have hm : m = 0 ∨ m = 1 ∨ m = 2 ∨ m = 3 ∨ m = 4 := by omega
  rcases hm with rfl | rfl | rfl | rfl | rfl
  · exact Tr.of e_end_6_0 rfl
  · exact Tr.of e_end_6_1 rfl
  · exact Tr.of e_end_6_2 rfl
  · exact Tr.of e_end_6_3 rfl
  · exact Tr.of e_end_6_4 rfl

theorem e_v4_7 : v4 (callF 60) (LEnv sc x2 x3 x4 x5 x6 x7 x8 x9 x10 x11 x12 x13 x14 x15 x16 (.va (.int 7)) u18 u19 u20 u21 u22 u23 u24 u25 u26) = pure (.nx (LEnv sc x2 (.va (T ["n0", "n1", "n2", "n3", "n4", "n5", "n6"])) x4 x5 x6 x7 x8 x9 x10 x11 x12 x13 x14 x15 x16 (.va (.int 7)) u18 u19 u20 u21 u22 u23 u24 u25 u26)) := by rfl
theorem e_v5_7 : v5 (callF 60) (LEnv sc x2 (.va (T ["n0", "n1", "n2", "n3", "n4", "n5", "n6"])) x4 x5 x6 x7 x8 x9 x10 x11 x12 x13 x14 x15 x16 (.va (.int 7)) u18 u19 u20 u21 u22 u23 u24 u25 u26) = pure (.nx (LEnv sc x2 (.va (T ["n0", "n1", "n2", "n3", "n4", "n5", "n6"])) x4 x5 x6 x7 x8 x9 x10 x11 x12 x13 x14 x15 x16 (.va (.int 7)) (.va (.tup [.tup [.tup [.str "n5"], .tup [.str "n6"]], .tup [.tup [.str "n4"], .tup [.str "n5"]], .tup [.tup [.str "n3"], .tup [.str "n4"]], .tup [.tup [.str "n2"], .tup [.str "n3"]], .tup [.tup [.str "n1"], .tup [.str "n2"]], .tup [.tup [.str "n0"], .tup [.str "n1"]]])) u19 u20 u21 u22 u23 u24 u25 u26)) := by rfl
theorem t_v6_7 : Tr Cup (v6 (callF 60) (LEnv sc x2 (.va (T ["n0", "n1", "n2", "n3", "n4", "n5", "n6"])) x4 x5 x6 x7 x8 x9 x10 x11 x12 x13 x14 x15 x16 (.va (.int 7)) (.va (.tup [.tup [.tup [.str "n5"], .tup [.str "n6"]], .tup [.tup [.str "n4"], .tup [.str "n5"]], .tup [.tup [.str "n3"], .tup [.str "n4"]], .tup [.tup [.str "n2"], .tup [.str "n3"]], .tup [.tup [.str "n1"], .tup [.str "n2"]], .tup [.tup [.str "n0"], .tup [.str "n1"]]])) u19 u20 u21 u22 u23 u24 u25 u26)) fun f => ∃ ρ1, f = .nx ρ1 ∧ ∃ m : Int, 0 ≤ m ∧ m < 6 ∧ ρ1 = (LEnv sc x2 (.va (T ["n0", "n1", "n2", "n3", "n4", "n5", "n6"])) x4 x5 x6 x7 x8 x9 x10 x11 x12 x13 x14 x15 x16 (.va (.int 7)) (.va (.tup [.tup [.tup [.str "n5"], .tup [.str "n6"]], .tup [.tup [.str "n4"], .tup [.str "n5"]], .tup [.tup [.str "n3"], .tup [.str "n4"]], .tup [.tup [.str "n2"], .tup [.str "n3"]], .tup [.tup [.str "n1"], .tup [.str "n2"]], .tup [.tup [.str "n0"], .tup [.str "n1"]]])) (.va (.int m)) u20 u21 u22 u23 u24 u25 u26) := by
  have hs : subD (.int 7) (.int 1) = pure (.int 6) := rfl
  generalize hP : (fun f : Fl => ∃ ρ1, f = .nx ρ1 ∧ ∃ m : Int, 0 ≤ m ∧ m < 6 ∧ ρ1 = (LEnv sc x2 (.va (T ["n0", "n1", "n2", "n3", "n4", "n5", "n6"])) x4 x5 x6 x7 x8 x9 x10 x11 x12 x13 x14 x15 x16 (.va (.int 7)) (.va (.tup [.tup [.tup [.str "n5"], .tup [.str "n6"]], .tup [.tup [.str "n4"], .tup [.str "n5"]], .tup [.tup [.str "n3"], .tup [.str "n4"]], .tup [.tup [.str "n2"], .tup [.str "n3"]], .tup [.tup [.str "n1"], .tup [.str "n2"]], .tup [.tup [.str "n0"], .tup [.str "n1"]]])) (.va (.int m)) u20 u21 u22 u23 u24 u25 u26)) = P
  unfold v6
  simp [hs]
  subst hP
  refine Tr.bind (s_roll 59 (m := 6) (by decide) (by decide)) ?_
  rintro d ⟨r, rfl, h0, h1⟩
  exact Tr.pure ⟨_, rfl, r, h0, h1, rfl⟩

theorem e_end_7_0 : (sSeq (v7 (callF 60)) (sSeq (v8 (callF 60)) (sSeq (v9 (callF 60)) (v10 (callF 60))))) (LEnv sc x2 (.va (T ["n0", "n1", "n2", "n3", "n4", "n5", "n6"])) x4 x5 x6 x7 x8 x9 x10 x11 x12 x13 x14 x15 x16 (.va (.int 7)) (.va (.tup [.tup [.tup [.str "n5"], .tup [.str "n6"]], .tup [.tup [.str "n4"], .tup [.str "n5"]], .tup [.tup [.str "n3"], .tup [.str "n4"]], .tup [.tup [.str "n2"], .tup [.str "n3"]], .tup [.tup [.str "n1"], .tup [.str "n2"]], .tup [.tup [.str "n0"], .tup [.str "n1"]]])) (.va (.int 0)) u20 u21 u22 u23 u24 u25 u26) = pure (.rt (.bl true)) := by rfl

theorem e_end_7_1 : (sSeq (v7 (callF 60)) (sSeq (v8 (callF 60)) (sSeq (v9 (callF 60)) (v10 (callF 60))))) (LEnv sc x2 (.va (T ["n0", "n1", "n2", "n3", "n4", "n5", "n6"])) x4 x5 x6 x7 x8 x9 x10 x11 x12 x13 x14 x15 x16 (.va (.int 7)) (.va (.tup [.tup [.tup [.str "n5"], .tup [.str "n6"]], .tup [.tup [.str "n4"], .tup [.str "n5"]], .tup [.tup [.str "n3"], .tup [.str "n4"]], .tup [.tup [.str "n2"], .tup [.str "n3"]], .tup [.tup [.str "n1"], .tup [.str "n2"]], .tup [.tup [.str "n0"], .tup [.str "n1"]]])) (.va (.int 1)) u20 u21 u22 u23 u24 u25 u26) = pure (.rt (.bl true)) := by rfl

theorem e_end_7_2 : (sSeq (v7 (callF 60)) (sSeq (v8 (callF 60)) (sSeq (v9 (callF 60)) (v10 (callF 60))))) (LEnv sc x2 (.va (T ["n0", "n1", "n2", "n3", "n4", "n5", "n6"])) x4 x5 x6 x7 x8 x9 x10 x11 x12 x13 x14 x15 x16 (.va (.int 7)) (.va (.tup [.tup [.tup [.str "n5"], .tup [.str "n6"]], .tup [.tup [.str "n4"], .tup [.str "n5"]], .tup [.tup [.str "n3"], .tup [.str "n4"]], .tup [.tup [.str "n2"], .tup [.str "n3"]], .tup [.tup [.str "n1"], .tup [.str "n2"]], .tup [.tup [.str "n0"], .tup [.str "n1"]]])) (.va (.int 2)) u20 u21 u22 u23 u24 u25 u26) = pure (.rt (.bl true)) := by rfl

theorem e_end_7_3 : (sSeq (v7 (callF 60)) (sSeq (v8 (callF 60)) (sSeq (v9 (callF 60)) (v10 (callF 60))))) (LEnv sc x2 (.va (T ["n0", "n1", "n2", "n3", "n4", "n5", "n6"])) x4 x5 x6 x7 x8 x9 x10 x11 x12 x13 x14 x15 x16 (.va (.int 7)) (.va (.tup [.tup [.tup [.str "n5"], .tup [.str "n6"]], .tup [.tup [.str "n4"], .tup [.str "n5"]], .tup [.tup [.str "n3"], .tup [.str "n4"]], .tup [.tup [.str "n2"], .tup [.str "n3"]], .tup [.tup [.str "n1"], .tup [.str "n2"]], .tup [.tup [.str "n0"], .tup [.str "n1"]]])) (.va (.int 3)) u20 u21 u22 u23 u24 u25 u26) = pure (.rt (.bl true)) := by rfl

theorem e_end_7_4 : (sSeq (v7 (callF 60)) (sSeq (v8 (callF 60)) (sSeq (v9 (callF 60)) (v10 (callF 60))))) (LEnv sc x2 (.va (T ["n0", "n1", "n2", "n3", "n4", "n5", "n6"])) x4 x5 x6 x7 x8 x9 x10 x11 x12 x13 x14 x15 x16 (.va (.int 7)) (.va (.tup [.tup [.tup [.str "n5"], .tup [.str "n6"]], .tup [.tup [.str "n4"], .tup [.str "n5"]], .tup [.tup [.str "n3"], .tup [.str "n4"]], .tup [.tup [.str "n2"], .tup [.str "n3"]], .tup [.tup [.str "n1"], .tup [.str "n2"]], .tup [.tup [.str "n0"], .tup [.str "n1"]]])) (.va (.int 4)) u20 u21 u22 u23 u24 u25 u26) = pure (.rt (.bl true)) := by rfl

theorem e_end_7_5 : (sSeq (v7 (callF 60)) (sSeq (v8 (callF 60)) (sSeq (v9 (callF 60)) (v10 (callF 60))))) (LEnv sc x2 (.va (T ["n0", "n1", "n2", "n3", "n4", "n5", "n6"])) x4 x5 x6 x7 x8 x9 x10 x11 x12 x13 x14 x15 x16 (.va (.int 7)) (.va (.tup [.tup [.tup [.str "n5"], .tup [.str "n6"]], .tup [.tup [.str "n4"], .tup [.str "n5"]], .tup [.tup [.str "n3"], .tup [.str "n4"]], .tup [.tup [.str "n2"], .tup [.str "n3"]], .tup [.tup [.str "n1"], .tup [.str "n2"]], .tup [.tup [.str "n0"], .tup [.str "n1"]]])) (.va (.int 5)) u20 u21 u22 u23 u24 u25 u26) = pure (.rt (.bl true)) := by rfl

theorem t_end_7 : Tr Cup ((sSeq (v4 (callF 60)) (sSeq (v5 (callF 60)) (sSeq (v6 (callF 60)) (sSeq (v7 (callF 60)) (sSeq (v8 (callF 60)) (sSeq (v9 (callF 60)) (v10 (callF 60)))))))) (LEnv sc x2 x3 x4 x5 x6 x7 x8 x9 x10 x11 x12 x13 x14 x15 x16 (.va (.int 7)) u18 u19 u20 u21 u22 u23 u24 u25 u26)) fun f => f = .rt (.bl true) := by
  refine Tr.seqE e_v4_7 ?_
  refine Tr.seqE e_v5_7 ?_
  refine Tr.seq t_v6_7 ?_
  rintro _ ⟨m, h0, h1, rfl⟩
  have hm : m = 0 ∨ m = 1 ∨ m = 2 ∨ m = 3 ∨ m = 4 ∨ m = 5 := by omega
  rcases hm with rfl | rfl | rfl | rfl | rfl | rfl
  · exact Tr.of e_end_7_0 rfl
  · exact Tr.of e_end_7_1 rfl
  · exact Tr.of e_end_7_2 rfl
  · exact Tr.of e_end_7_3 rfl
  · exact Tr.of e_end_7_4 rfl
  · exact Tr.of e_end_7_5 rfl

theorem t_rest : Tr Cup ((sSeq (v3 (callF 60)) (sSeq (v4 (callF 60)) (sSeq (v5 (callF 60)) (sSeq (v6 (callF 60)) (sSeq (v7 (callF 60)) (sSeq (v8 (callF 60)) (sSeq (v9 (callF 60)) (v10 (callF 60))))))))) (LEnv sc x2 x3 x4 x5 x6 x7 x8 x9 x10 x11 x12 x13 x14 x15 x16 u17 u18 u19 u20 u21 u22 u23 u24 u25 u26)) fun f => f = .rt (.bl true) := by
  refine Tr.seq t_v3 ?_
  rintro _ ⟨m, h0, h1, rfl⟩
  have hm : m = 0 ∨ m = 1 ∨ m = 2 ∨ m = 3 ∨ m = 4 ∨ m = 5 := by omega
  rcases hm with rfl | rfl | rfl | rfl | rfl | rfl
  · exact t_end_2
  · exact t_end_3
  · exact t_end_4
  · exact t_end_5
  · exact t_end_6
  · exact t_end_7

end
end K82
end

section
set_option Elab.async false
set_option linter.all false
set_option maxRecDepth 100000
set_option autoImplicit false
set_option maxHeartbeats 1000000
namespace K82
open PySem (Str)
open RP
theorem law_true (ns : List Int) (h : ns.length ≤ 63) : ∃ cs', runB 1 27 (b_law (callF 60)) [.scr (ns.map D.int)] [] = .ok (.bl true) cs' := by
  obtain ⟨cs1, h1, hc⟩ := s_cup 59 h
  have h2 : Tr Cup (sSeq (sFor (lCall range1D (aCons (eLit (.int 5)) (aNil))) (gName 2) (wbody (callF 60))) (sSeq (v3 (callF 60)) (sSeq (v4 (callF 60)) (sSeq (v5 (callF 60)) (sSeq (v6 (callF 60)) (sSeq (v7 (callF 60)) (sSeq (v8 (callF 60)) (sSeq (v9 (callF 60)) (v10 (callF 60))))))))) ([.va (.scr (ns.map D.int)), .va (.obj 0)] ++ List.replicate 25 Sl.no)) fun f => f = .rt (.bl true) := by
    refine Tr.seq (t_turns ?_) ?_
    · exact ⟨_, _, _, _, _, _, _, _, _, _, _, _, _, _, _, _, _, _, _, _, _, _, _, _, _, _, rfl⟩
    · rintro _ ⟨sc, x2, x3, x4, x5, x6, x7, x8, x9, x10, x11, x12, x13, x14, x15, x16, u17, u18, u19, u20, u21, u22, u23, u24, u25, u26, rfl⟩
      exact t_rest
  obtain ⟨f, cs', h3, _, rfl⟩ := h2 cs1 hc
  refine ⟨cs', ?_⟩
  rw [runB_1, law_parts, sSeq_eq]
  have h4 : v1 (callF 60) (.va (.scr (ns.map D.int)) :: List.replicate 26 Sl.no) = callF 60 37 [.scr (ns.map D.int)] >>= fun d => pure (.nx ([.va (.scr (ns.map D.int)), .va d] ++ List.replicate 25 Sl.no)) := by
    unfold v1
    simp
  rw [h4, M.assoc', M.assoc', M.bind_ok h1, M.pureb']
  show ((sSeq _ _ _) >>= outF) cs1 = _
  rw [M.bind_ok h3]
  rfl
end K82
end

open PySem PySem.W PyProof.Rows
set_option maxHeartbeats 0 in
theorem PySem.Challenge.cw_paperhall_k82_whole_rules_that_follow_or_holds : PySem.Challenge.rw_paperhall_k82_whole_rules_that_follow_or.Holds := by
  w_on; o_law; k_head; (case hw => w_witness2)
  k_fill
  refine L2.walk_of (l := PySem.Challenge.rw_paperhall_k82_whole_rules_that_follow_or) (n := 63) (k := 60 + 1) (x := "script") (CX := fun _ => L2.CX0) (sp := fun w => RP.prom _ 1 (RP.runB 1 27 (K82.b_law (K82.callF 60)))) rfl (by decide) rfl ⟨rfl, by decide, by decide⟩ (fun w h Y => PySem.W.kIn_of Y) ?F (fun _ H a ns hl _ hS => RP.law_sp K82.law_true H a ns hl hS) (fun _ _ _ _ _ h => h)
  case F =>
    intro w mg fa h KX G hmg
    refine' K82.all_mk 60 KX G hmg ?a0 ?l0 ?c0 ?k0 ?a1 ?l1 ?c1 ?k1 ?a2 ?l2 ?c2 ?k2 ?a3 ?l3 ?c3 ?k3 ?a4 ?l4 ?c4 ?k4 ?a5 ?l5 ?c5 ?k5 ?a6 ?l6 ?c6 ?k6 ?a7 ?l7 ?c7 ?k7 ?a8 ?l8 ?c8 ?k8 ?a9 ?l9 ?c9 ?k9 ?a10 ?l10 ?c10 ?k10 ?a11 ?l11 ?c11 ?k11 ?a12 ?l12 ?c12 ?k12 ?a13 ?l13 ?c13 ?k13 ?a14 ?l14 ?c14 ?k14 ?a15 ?l15 ?c15 ?k15 ?a16 ?l16 ?c16 ?k16 ?a17 ?l17 ?c17 ?k17 ?a18 ?l18 ?c18 ?k18 ?a19 ?l19 ?c19 ?k19 ?a20 ?l20 ?c20 ?k20 ?a21 ?l21 ?c21 ?k21 ?a22 ?l22 ?c22 ?k22 ?a23 ?l23 ?c23 ?k23 ?a24 ?l24 ?c24 ?k24 ?a25 ?l25 ?c25 ?k25 ?a26 ?l26 ?c26 ?k26 ?a27 ?l27 ?c27 ?k27 ?a28 ?l28 ?c28 ?k28 ?a29 ?l29 ?c29 ?k29 ?a30 ?l30 ?c30 ?k30 ?a31 ?l31 ?c31 ?k31 ?a32 ?l32 ?c32 ?k32 ?a33 ?l33 ?c33 ?k33 ?a34 ?l34 ?c34 ?k34 ?a35 ?l35 ?c35 ?k35 ?a36 ?l36 ?c36 ?k36 ?a37 ?l37 ?c37 ?k37 ?a38 ?l38 ?c38 ?k38 ?a39 ?l39 ?c39 ?k39 ?a40 ?l40 ?c40 ?k40 ?a41 ?l41 ?c41 ?k41 ?a42 ?l42 ?c42 ?k42 ?a43 ?l43 ?c43 ?k43 ?a44 ?l44 ?c44 ?k44 ?a45 ?l45 ?c45 ?k45 ?a46 ?l46 ?c46 ?k46 ?a47 ?l47 ?c47 ?k47 ?a48 ?l48 ?c48 ?k48 ?a49 ?l49 ?c49 ?k49 ?a50 ?l50 ?c50 ?k50 ?a51 ?l51 ?c51 ?k51 ?a52 ?l52 ?c52 ?k52 ?z_len ?z_range ?z_int ?z_str ?z_abs ?z_all ?z_any ?z_tuple ?z_list ?z_sorted ?z_isinstance ?z_zip ?z_enumerate ?z_ord ?z_set ?z_dict ?z_bool ?z_max ?z_min ?z_sum ?z_chr ?z_reversed ?g_HIGHEST ?g_LONGEST ?g_MOST ?g_DEEP ?g_NAME ?g_SMALL ?g_SIGNS ?g_KINDS ?h_KINDS ?g_NAMES ?g_RULES ?g_ROWS
    (case a0 => k_is); (case l0 => k_is); (case c0 => k_is); (case k0 => k_is); (case a1 => k_is); (case l1 => k_is); (case c1 => k_is); (case k1 => k_is); (case a2 => k_is); (case l2 => k_is); (case c2 => k_is); (case k2 => k_is); (case a3 => k_is); (case l3 => k_is); (case c3 => k_is); (case k3 => k_is); (case a4 => k_is); (case l4 => k_is); (case c4 => k_is); (case k4 => k_is); (case a5 => k_is); (case l5 => k_is); (case c5 => k_is); (case k5 => k_is); (case a6 => k_is); (case l6 => k_is); (case c6 => k_is); (case k6 => k_is); (case a7 => k_is); (case l7 => k_is); (case c7 => k_is); (case k7 => k_is); (case a8 => k_is); (case l8 => k_is); (case c8 => k_is); (case k8 => k_is); (case a9 => k_is); (case l9 => k_is); (case c9 => k_is); (case k9 => k_is); (case a10 => k_is); (case l10 => k_is); (case c10 => k_is); (case k10 => k_is); (case a11 => k_is); (case l11 => k_is); (case c11 => k_is); (case k11 => k_is); (case a12 => k_is); (case l12 => k_is); (case c12 => k_is); (case k12 => k_is); (case a13 => k_is); (case l13 => k_is); (case c13 => k_is); (case k13 => k_is); (case a14 => k_is); (case l14 => k_is); (case c14 => k_is); (case k14 => k_is); (case a15 => k_is); (case l15 => k_is); (case c15 => k_is); (case k15 => k_is); (case a16 => k_is); (case l16 => k_is); (case c16 => k_is); (case k16 => k_is); (case a17 => k_is); (case l17 => k_is); (case c17 => k_is); (case k17 => k_is); (case a18 => k_is); (case l18 => k_is); (case c18 => k_is); (case k18 => k_is); (case a19 => k_is); (case l19 => k_is); (case c19 => k_is); (case k19 => k_is); (case a20 => k_is); (case l20 => k_is); (case c20 => k_is); (case k20 => k_is); (case a21 => k_is); (case l21 => k_is); (case c21 => k_is); (case k21 => k_is); (case a22 => k_is); (case l22 => k_is); (case c22 => k_is); (case k22 => k_is); (case a23 => k_is); (case l23 => k_is); (case c23 => k_is); (case k23 => k_is); (case a24 => k_is); (case l24 => k_is); (case c24 => k_is); (case k24 => k_is); (case a25 => k_is); (case l25 => k_is); (case c25 => k_is); (case k25 => k_is); (case a26 => k_is); (case l26 => k_is); (case c26 => k_is); (case k26 => k_is); (case a27 => k_is); (case l27 => k_is); (case c27 => k_is); (case k27 => k_is); (case a28 => k_is); (case l28 => k_is); (case c28 => k_is); (case k28 => k_is); (case a29 => k_is); (case l29 => k_is); (case c29 => k_is); (case k29 => k_is); (case a30 => k_is); (case l30 => k_is); (case c30 => k_is); (case k30 => k_is); (case a31 => k_is); (case l31 => k_is); (case c31 => k_is); (case k31 => k_is); (case a32 => k_is); (case l32 => k_is); (case c32 => k_is); (case k32 => k_is); (case a33 => k_is); (case l33 => k_is); (case c33 => k_is); (case k33 => k_is); (case a34 => k_is); (case l34 => k_is); (case c34 => k_is); (case k34 => k_is); (case a35 => k_is); (case l35 => k_is); (case c35 => k_is); (case k35 => k_is); (case a36 => k_is); (case l36 => k_is); (case c36 => k_is); (case k36 => k_is); (case a37 => k_is); (case l37 => k_is); (case c37 => k_is); (case k37 => k_is); (case a38 => k_is); (case l38 => k_is); (case c38 => k_is); (case k38 => k_is); (case a39 => k_is); (case l39 => k_is); (case c39 => k_is); (case k39 => k_is); (case a40 => k_is); (case l40 => k_is); (case c40 => k_is); (case k40 => k_is); (case a41 => k_is); (case l41 => k_is); (case c41 => k_is); (case k41 => k_is); (case a42 => k_is); (case l42 => k_is); (case c42 => k_is); (case k42 => k_is); (case a43 => k_is); (case l43 => k_is); (case c43 => k_is); (case k43 => k_is); (case a44 => k_is); (case l44 => k_is); (case c44 => k_is); (case k44 => k_is); (case a45 => k_is); (case l45 => k_is); (case c45 => k_is); (case k45 => k_is); (case a46 => k_is); (case l46 => k_is); (case c46 => k_is); (case k46 => k_is); (case a47 => k_is); (case l47 => k_is); (case c47 => k_is); (case k47 => k_is); (case a48 => k_is); (case l48 => k_is); (case c48 => k_is); (case k48 => k_is); (case a49 => k_is); (case l49 => k_is); (case c49 => k_is); (case k49 => k_is); (case a50 => k_is); (case l50 => k_is); (case c50 => k_is); (case k50 => k_is); (case a51 => k_is); (case l51 => k_is); (case c51 => k_is); (case k51 => k_is); (case a52 => k_is); (case l52 => k_is); (case c52 => k_is); (case k52 => k_is); (case z_len => k_is); (case z_range => k_is); (case z_int => k_is); (case z_str => k_is); (case z_abs => k_is); (case z_all => k_is); (case z_any => k_is); (case z_tuple => k_is); (case z_list => k_is); (case z_sorted => k_is); (case z_isinstance => k_is); (case z_zip => k_is); (case z_enumerate => k_is); (case z_ord => k_is); (case z_set => k_is); (case z_dict => k_is); (case z_bool => k_is); (case z_max => k_is); (case z_min => k_is); (case z_sum => k_is); (case z_chr => k_is); (case z_reversed => k_is); (case g_HIGHEST => k_is); (case g_LONGEST => k_is); (case g_MOST => k_is); (case g_DEEP => k_is); (case g_NAME => k_is); (case g_SMALL => k_is); (case g_SIGNS => k_is); (case g_KINDS => k_is); (case h_KINDS => k_is); (case g_NAMES => k_is); (case g_RULES => k_is); (case g_ROWS => k_is)
