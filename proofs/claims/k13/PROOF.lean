import PyProof.Rows.All
import Wide.All
import OpenK.AllK
import Wide.FinOn
import HandS.ForMost
import HandS.Walk
import HandS.WordsExc
import HandS.Sort
import HandS.TupAny
import HandS.TupMul
import HandS.ExcCtx
import HandS.Lambda
import HandS.HotCalls
import HandS.IsInst
import HandS.Style
import PyProof.Draws
import PyProof.EnumMake
import HandS.Zip
import HandS.StrMore
import HandS.EndTab
import KE.KNestM
import HandS.Conv
import PyProof.Rows.StrCut
import HandS.Hot
import HandS.ExcIs
import PySem.Challenge.RW_anchorholds_k13_anchors_scores_and_findi
set_option Elab.async false
set_option linter.all false
set_option maxRecDepth 100000
set_option maxHeartbeats 4000000
/-! Data-level meaning of Python pieces: plain Lean, no model in sight. -/
namespace DI

inductive D where
  | non | bl (b : Bool) | int (i : Int) | str (s : List Char) | tup (xs : List D) | lst (xs : List D)
  /-- a dict, an instance, that are changed no more -/
  | dct (ks vs : List D) | ins (c : String) (ns : List String) (vs : List D)
  deriving Inhabited
/-- a value: data, or a changeable object by its number -/
inductive PV where
  | d (x : D) | obj (i : Nat) | raw (a : Nat)
/-- a changeable object: a list; a list that is changed no more; a code object's table; a list of lists -/
inductive MO where
  | l1 (xs : List D) | fz (xs : List D) | tab (P : Nat) (q : String) | l2 (xs : List (List D))
abbrev Mem := List MO
structure Exc where
  cls : String
  pay : Option (String × D)
inductive Res (α : Type) where
  | ok (a : α) (m : Mem) | ex (e : Exc) (m : Mem) | no
abbrev Env := List (Option PV)
abbrev SE := Env → Mem → Res PV
abbrev Fn := List PV → Mem → Res PV

def Res.bind {α β : Type} : Res α → (α → Mem → Res β) → Res β
  | .ok a m, k => k a m
  | .ex e m, _ => .ex e m
  | .no, _ => .no
@[simp] theorem Res.bind_ok {α β : Type} (a : α) (m : Mem) (k : α → Mem → Res β) : (Res.ok a m).bind k = k a m := rfl
@[simp] theorem Res.bind_ex {α β : Type} (e : Exc) (m : Mem) (k : α → Mem → Res β) : (Res.ex e m).bind k = .ex e m := rfl
@[simp] theorem Res.bind_no {α β : Type} (k : α → Mem → Res β) : (Res.no : Res α).bind k = .no := rfl

/-- what is read of a value -/
def vw (m : Mem) : PV → Option D
  | .d x => some x
  | .obj i => match m[i]? with
    | some (.l1 xs) => some (.lst xs)
    | some (.fz xs) => some (.lst xs)
    | _ => none
  | .raw _ => none
@[simp] theorem vw_d (m : Mem) (x : D) : vw m (.d x) = some x := rfl
theorem vw_l1 {m : Mem} {i : Nat} {xs : List D} (h : m[i]? = some (.l1 xs)) : vw m (.obj i) = some (.lst xs) := by
  simp [vw, h]

def ofO (o : Option D) (m : Mem) : Res PV := match o with
  | some d => .ok (.d d) m
  | none => .no
@[simp] theorem ofO_some (d : D) (m : Mem) : ofO (some d) m = .ok (.d d) m := rfl
@[simp] theorem ofO_none (m : Mem) : ofO none m = .no := rfl

/-! ### expressions -/
def eV (i : Nat) : SE := fun ρ m => match ρ[i]? with
  | some (some v) => .ok v m
  | _ => .no
def eC (d : D) : SE := fun _ m => .ok (.d d) m
def e1 (f : D → Option D) (a : SE) : SE := fun ρ m => (a ρ m).bind fun x m => ofO ((vw m x).bind f) m
def e2 (f : D → D → Option D) (a b : SE) : SE := fun ρ m => (a ρ m).bind fun x m => (b ρ m).bind fun y m => ofO ((vw m x).bind fun dx => (vw m y).bind fun dy => f dx dy) m
def e3 (f : D → D → D → Option D) (a b c : SE) : SE := fun ρ m => (a ρ m).bind fun x m => (b ρ m).bind fun y m => (c ρ m).bind fun z m =>
  ofO ((vw m x).bind fun dx => (vw m y).bind fun dy => (vw m z).bind fun dz => f dx dy dz) m
/-- a text's method -/
def e2s (f : D → D → Option D) (a b : SE) : SE := fun ρ m => (a ρ m).bind fun x m => match x with
  | .d (.str s) => (b ρ m).bind fun y m => ofO ((vw m y).bind fun dy => f (.str s) dy) m
  | _ => .no
def e1s (f : D → Option D) (a : SE) : SE := fun ρ m => (a ρ m).bind fun x m => match x with
  | .d (.str s) => ofO (f (.str s)) m
  | _ => .no
/-- a test's answer -/
def tst {α : Type} (k : Bool → Mem → Res α) (v : PV) (m : Mem) : Res α := match v with
  | .d (.bl b) => k b m
  | _ => .no
@[simp] theorem tst_bl {α : Type} (k : Bool → Mem → Res α) (b : Bool) (m : Mem) : tst k (.d (.bl b)) m = k b m := rfl
def eAnd (a b : SE) : SE := fun ρ m => (a ρ m).bind (tst fun c m => if c = true then b ρ m else .ok (.d (.bl false)) m)
def eOr (a b : SE) : SE := fun ρ m => (a ρ m).bind (tst fun c m => if c = true then .ok (.d (.bl true)) m else b ρ m)
def eNot (a : SE) : SE := fun ρ m => (a ρ m).bind (tst fun c m => .ok (.d (.bl (!c))) m)
def eIf (c a b : SE) : SE := fun ρ m => (c ρ m).bind (tst fun c m => if c = true then a ρ m else b ρ m)
/-- a chain a f b g c -/
def eCh (f g : D → D → Option D) (a b c : SE) : SE := fun ρ m => (a ρ m).bind fun x m => (b ρ m).bind fun y m =>
  (ofO ((vw m x).bind fun dx => (vw m y).bind fun dy => f dx dy) m).bind (tst fun t m => if t = true then (c ρ m).bind fun z m => ofO ((vw m y).bind fun dy => (vw m z).bind fun dz => g dy dz) m
    else .ok (.d (.bl false)) m)
/-- several, from the left -/
def eArgs : List SE → Env → Mem → Res (List PV)
  | [], _, m => .ok [] m
  | a :: as, ρ, m => (a ρ m).bind fun x m => (eArgs as ρ m).bind fun xs m => .ok (x :: xs) m
/-- .. each of them data -/
def datas (m : Mem) : List PV → Option (List D)
  | [] => some []
  | .d x :: r => (datas m r).map (x :: ·)
  | _ :: _ => none
@[simp] theorem datas_nil (m : Mem) : datas m [] = some [] := rfl
@[simp] theorem datas_d (m : Mem) (x : D) (r : List PV) : datas m (.d x :: r) = (datas m r).map (x :: ·) := rfl
def lineL : Nat := 16777216
def eTup (es : List SE) : SE := fun ρ m => (eArgs es ρ m).bind fun xs m => match datas m xs with
  | some ds => .ok (.d (.tup ds)) m
  | none => .no
/-- a new list's items -/
abbrev NE := Env → Mem → Res (List D)
def nLst (es : List SE) : NE := fun ρ m => (eArgs es ρ m).bind fun xs m => match datas m xs with
  | some ds => .ok ds m
  | none => .no
/-- a new list as data; as an object -/
def eFz (a : NE) : SE := fun ρ m => (a ρ m).bind fun xs m => .ok (.d (.lst xs)) m
def eNw (a : NE) : SE := fun ρ m => (a ρ m).bind fun xs m => .ok (.obj m.length) (m ++ [.l1 xs])
def eCall (F : Fn) (es : List SE) : SE := fun ρ m => (eArgs es ρ m).bind fun xs m => F xs m
/-- a slice -/
abbrev OE := Env → Mem → Res (Option Int)
def oN : OE := fun _ m => .ok none m
def oS (a : SE) : OE := fun ρ m => (a ρ m).bind fun x m => match x with
  | .d (.int i) => .ok (some i) m
  | _ => .no
def eSl (f : D → Option Int → Option Int → Option D) (a : SE) (lo hi : OE) : SE := fun ρ m => (a ρ m).bind fun x m => (lo ρ m).bind fun l m => (hi ρ m).bind fun h m =>
  ofO ((vw m x).bind fun dx => f dx l h) m

/-! ### targets -/
abbrev Tg := PV → Env → Option Env
def tN (i : Nat) : Tg := fun v ρ => some (ρ.set i (some v))
def setAll : List Nat → List D → Env → Option Env
  | [], [], ρ => some ρ
  | i :: is, x :: xs, ρ => setAll is xs (ρ.set i (some (.d x)))
  | _, _, _ => none
def tT (is : List Nat) : Tg := fun v ρ => match v with
  | .d (.tup xs) => setAll is xs ρ
  | _ => none

/-! ### what is walked -/
abbrev IE := Env → Mem → Res (List D)
/-- a list, a tuple, a text -/
def itD : D → Option (List D)
  | .lst xs => some xs
  | .tup xs => some xs
  | .str s => some (s.map fun c => .str [c])
  | _ => none
def iV (a : SE) : IE := fun ρ m => (a ρ m).bind fun x m => match x with
  | .d x => (match itD x with
    | some xs => .ok xs m
    | none => .no)
  | _ => .no
def rng (lo : Int) (n : Nat) : List D := (List.range n).map fun (i : Nat) => .int (lo + (i : Int))
def fits62 (i : Int) : Bool := decide (i.natAbs < 2 ^ 62)
def iR1 (a : SE) : IE := fun ρ m => (a ρ m).bind fun x m => match x with
  | .d (.int j) => if fits62 j then .ok (rng 0 j.toNat) m else .no
  | _ => .no
def iR2 (a b : SE) : IE := fun ρ m => (a ρ m).bind fun x m => (b ρ m).bind fun y m => match x, y with
  | .d (.int i), .d (.int j) => if fits62 i && fits62 j then .ok (rng i (j - i).toNat) m else .no
  | _, _ => .no
def iEnum (a : SE) : IE := fun ρ m => (iV a ρ m).bind fun xs m => .ok (xs.mapIdx fun i x => .tup [.int i, x]) m
def iZip (a b : SE) : IE := fun ρ m => (a ρ m).bind fun x m => (b ρ m).bind fun y m => match x, y with
  | .d x, .d y => (match itD x, itD y with
    | some xs, some ys => .ok ((xs.zip ys).map fun p => .tup [p.1, p.2]) m
    | _, _ => .no)
  | _, _ => .no

/-! ### comprehensions -/
def wipeE (ρ : Env) : List Nat → Env
  | [] => ρ
  | v :: vs => (wipeE ρ vs).set v none
/-- the turns; ts: the tests, all of them -/
def lcL (tg : Tg) (ts : Env → Mem → Res PV) (e : SE) : List D → Env → Mem → List D → Res (List D)
  | [], _, m, acc => .ok acc m
  | x :: xs, ρ, m, acc => match tg (.d x) ρ with
    | none => .no
    | some ρ1 => match ts ρ1 m with
      | .ok (.d (.bl true)) m1 => (match e ρ1 m1 with
        | .ok (.d y) m2 => lcL tg ts e xs ρ m2 (acc ++ [y])
        | _ => .no)
      | .ok (.d (.bl false)) m1 => lcL tg ts e xs ρ m1 acc
      | _ => .no
def nLc (own : List Nat) (it : IE) (tg : Tg) (ts e : SE) : NE := fun ρ m => (it ρ m).bind fun xs m => if xs.length ≤ lineL then lcL tg ts e xs (wipeE ρ own) m [] else .no
def tsY : SE := eC (.bl true)

/-! ### statements -/
inductive Out where
  | nx (ρ : Env) (m : Mem) | rt (v : PV) (m : Mem) | bk (ρ : Env) (m : Mem) | ct (ρ : Env) (m : Mem) | ex (e : Exc) (m : Mem) | no
abbrev SS := Env → Mem → Out
def Res.run {α : Type} : Res α → (α → Mem → Out) → Out
  | .ok a m, k => k a m
  | .ex e m, _ => .ex e m
  | .no, _ => .no
@[simp] theorem Res.run_ok {α : Type} (a : α) (m : Mem) (k : α → Mem → Out) : (Res.ok a m).run k = k a m := rfl
@[simp] theorem Res.run_ex {α : Type} (e : Exc) (m : Mem) (k : α → Mem → Out) : (Res.ex e m).run k = .ex e m := rfl
@[simp] theorem Res.run_no {α : Type} (k : α → Mem → Out) : (Res.no : Res α).run k = .no := rfl
def tstO (k : Bool → Mem → Out) (v : PV) (m : Mem) : Out := match v with
  | .d (.bl b) => k b m
  | _ => .no
@[simp] theorem tstO_bl (k : Bool → Mem → Out) (b : Bool) (m : Mem) : tstO k (.d (.bl b)) m = k b m := rfl
def sNil : SS := .nx
def sSeq (a b : SS) : SS := fun ρ m => match a ρ m with
  | .nx ρ1 m1 => b ρ1 m1
  | o => o
def sPass : SS := .nx
def sBrk : SS := .bk
def sCnt : SS := .ct
def sExpr (e : SE) : SS := fun ρ m => (e ρ m).run fun _ m => .nx ρ m
def sRet (e : SE) : SS := fun ρ m => (e ρ m).run fun v m => .rt v m
def sRetN : SS := fun _ m => .rt (.d .non) m
def sIf (c : SE) (a b : SS) : SS := fun ρ m => (c ρ m).run (tstO fun t m => if t = true then a ρ m else b ρ m)
def sAsg (tg : Tg) (e : SE) : SS := fun ρ m => (e ρ m).run fun v m => match tg v ρ with
  | some ρ1 => .nx ρ1 m
  | none => .no
/-- a, b, .. = x, y, .. -/
def setPV : List Nat → List PV → Env → Option Env
  | [], [], ρ => some ρ
  | i :: is, x :: xs, ρ => setPV is xs (ρ.set i (some x))
  | _, _, _ => none
def sPar (is : List Nat) (es : List SE) : SS := fun ρ m => (eArgs es ρ m).run fun vs m => match setPV is vs ρ with
  | some ρ1 => .nx ρ1 m
  | none => .no
def sAug (i : Nat) (f : D → D → Option D) (e : SE) : SS := fun ρ m => match ρ[i]? with
  | some (some (.d x)) => (e ρ m).run fun v m => match (vw m v).bind (f x) with
    | some d => .nx (ρ.set i (some (.d d))) m
    | none => .no
  | _ => .no
def forL (tg : Tg) (b : SS) : List D → SS
  | [], ρ, m => .nx ρ m
  | x :: xs, ρ, m => match tg (.d x) ρ with
    | none => .no
    | some ρ1 => match b ρ1 m with
      | .nx ρ2 m2 => forL tg b xs ρ2 m2
      | .ct ρ2 m2 => forL tg b xs ρ2 m2
      | .bk ρ2 m2 => .nx ρ2 m2
      | o => o
def sFor (tg : Tg) (it : IE) (b : SS) : SS := fun ρ m => (it ρ m).run fun xs m => forL tg b xs ρ m
def whL (c : SE) (b : SS) : Nat → SS
  | 0, _, _ => .no
  | n + 1, ρ, m => (c ρ m).run (tstO fun t m => if t = true then (match b ρ m with
      | .nx ρ2 m2 => whL c b n ρ2 m2
      | .ct ρ2 m2 => whL c b n ρ2 m2
      | .bk ρ2 m2 => .nx ρ2 m2
      | o => o) else .nx ρ m)
def sRaise (e : Exc) : SS := fun _ m => .ex e m
/-- x.append(e), x an object -/
def sApp (a e : SE) : SS := fun ρ m => (a ρ m).run fun x m => match x with
  | .obj i => (match m[i]? with
    | some (.l1 _) => (e ρ m).run fun y m => (match y, m[i]? with
      | .d y, some (.l1 xs) => if xs.length < lineL then .nx ρ (m.set i (.l1 (xs ++ [y]))) else .no
      | _, _ => .no)
    | _ => .no)
  | _ => .no
/-- x.extend(a new list) -/
def sExt (a : SE) (e : NE) : SS := fun ρ m => (a ρ m).run fun x m => match x with
  | .obj i => (match m[i]? with
    | some (.l1 _) => (e ρ m).run fun ys m => (match m[i]? with
      | some (.l1 xs) => if xs.length + ys.length ≤ lineL then .nx ρ (m.set i (.l1 (xs ++ ys))) else .no
      | _ => .no)
    | _ => .no)
  | _ => .no
/-- x[k] = e -/
def sSetI (a k e : SE) : SS := fun ρ m => (e ρ m).run fun y m => (a ρ m).run fun x m => (k ρ m).run fun k m => match x, k, y with
  | .obj i, .d (.int k), .d y => (match m[i]? with
    | some (.l1 xs) => if 0 ≤ k ∧ k < xs.length then .nx ρ (m.set i (.l1 (xs.set k.toNat y))) else .no
    | _ => .no)
  | _, _, _ => .no
/-- from here on the list in slot i is changed no more -/
def thawV (i : Nat) (xs : List D) : Option PV → Option PV
  | some (.obj j) => if j = i then some (.d (.lst xs)) else some (.obj j)
  | v => v
def sFz (s : Nat) (k : SS) : SS := fun ρ m => match ρ[s]? with
  | some (some (.obj i)) => (match m[i]? with
    | some (.l1 xs) => k (ρ.set s (some (.d (.lst xs)))) (m.set i (.fz xs))
    | _ => .no)
  | _ => .no

/-! ### a function -/
def fnR (n : Nat) : Out → Res PV
  | .rt (.d x) m => .ok (.d x) (m.take n)
  | .rt (.obj i) m => if i < n then .ok (.obj i) (m.take n) else .ok (.obj i) m
  | .rt (.raw a) m => .ok (.raw a) (m.take n)
  | .nx _ m => .ok (.d .non) (m.take n)
  | .ex e m => .ex e (m.take n)
  | _ => .no
def mkFn (nslots : Nat) (b : SS) : Fn := fun vs m => fnR m.length (b (vs.map some ++ List.replicate (nslots - vs.length) none) m)

/-! ### operations on data -/
def D.isStr : D → Bool | .str _ => true | _ => false
def D.isInt : D → Bool | .int _ => true | .bl _ => true | _ => false
def D.isBl : D → Bool | .bl _ => true | _ => false
def D.isTup : D → Bool | .tup _ => true | _ => false
def D.isLst : D → Bool | .lst _ => true | _ => false
def dAdd : D → D → Option D
  | .int i, .int j => some (.int (i + j))
  | .str s, .str t => if s.length + t.length ≤ lineL then some (.str (s ++ t)) else none
  | .lst s, .lst t => if s.length + t.length ≤ lineL then some (.lst (s ++ t)) else none
  | .tup s, .tup t => if s.length + t.length ≤ lineL then some (.tup (s ++ t)) else none
  | _, _ => none
def dSub : D → D → Option D
  | .int i, .int j => some (.int (i - j))
  | _, _ => none
def small64 (i : Int) : Bool := decide (i.natAbs < 2 ^ 64)
def dMul : D → D → Option D
  | .int i, .int j => if small64 i || small64 j then some (.int (i * j)) else none
  | _, _ => none
def dMod : D → D → Option D
  | .int i, .int j => if 0 < j then some (.int (i % j)) else none
  | _, _ => none
def dDiv : D → D → Option D
  | .int i, .int j => if 0 < j ∧ j < 1073741824 then some (.int (i / j)) else none
  | _, _ => none
def dPow : D → D → Option D
  | .int i, .int j => if 0 ≤ j ∧ j ≤ 1000000 ∧ i.natAbs < 2 ^ 64 then some (.int (i ^ j.toNat)) else none
  | _, _ => none
def dNeg : D → Option D
  | .int i => some (.int (-i))
  | _ => none
def dLt : D → D → Option D
  | .int i, .int j => some (.bl (decide (i < j)))
  | _, _ => none
def dLe : D → D → Option D
  | .int i, .int j => some (.bl (decide (i ≤ j)))
  | _, _ => none
def dGt : D → D → Option D
  | .int i, .int j => some (.bl (decide (j < i)))
  | _, _ => none
def dGe : D → D → Option D
  | .int i, .int j => some (.bl (decide (j ≤ i)))
  | _, _ => none
mutual
def D.eqv : D → D → Bool
  | .non, .non => true
  | .bl a, .bl b => a == b
  | .bl a, .int j => (if a then 1 else 0) == j
  | .int i, .bl b => i == (if b then 1 else 0)
  | .int i, .int j => i == j
  | .str x, .str y => x == y
  | .lst xs, .lst ys => D.eqvAll xs ys
  | .tup xs, .tup ys => D.eqvAll xs ys
  | _, _ => false
def D.eqvAll : List D → List D → Bool
  | [], [] => true
  | x :: xs, y :: ys => D.eqv x y && D.eqvAll xs ys
  | _, _ => false
end
mutual
def D.dep : D → Nat
  | .lst xs => D.depAll xs + 1
  | .tup xs => D.depAll xs + 1
  | .dct _ _ => 1000
  | .ins _ _ _ => 1000
  | _ => 0
def D.depAll : List D → Nat
  | [] => 0
  | x :: xs => max (D.dep x) (D.depAll xs)
end
def dEq (a b : D) : Option D := if a.dep ≤ 64 ∧ b.dep ≤ 64 then some (.bl (D.eqv a b)) else none
def dNe (a b : D) : Option D := if a.dep ≤ 64 ∧ b.dep ≤ 64 then some (.bl (!D.eqv a b)) else none
def dIsN (a : D) : Option D := match a with
  | .non => some (.bl true)
  | _ => some (.bl false)
def dNotN (a : D) : Option D := match a with
  | .non => some (.bl false)
  | _ => some (.bl true)
/-- is True, is False -/
def dIsB (c : Bool) (a : D) : Option D := match a with
  | .bl b => some (.bl (b == c))
  | _ => none
def dNotB (c : Bool) (a : D) : Option D := match a with
  | .bl b => some (.bl (!(b == c)))
  | _ => none
def flatD : D → Bool
  | .non => true | .bl _ => true | .int _ => true | .str _ => true | _ => false
/-- x in a list, a tuple of flat things; one sign in a text -/
def dIn : D → D → Option D
  | x, .lst ys => if flatD x && ys.all flatD then some (.bl (ys.any fun y => D.eqv y x)) else none
  | x, .tup ys => if flatD x && ys.all flatD then some (.bl (ys.any fun y => D.eqv y x)) else none
  | .str [c], .str s => some (.bl (s.contains c))
  | _, _ => none
def dNotIn (x y : D) : Option D := match dIn x y with
  | some (.bl b) => some (.bl (!b))
  | _ => none
def dLen : D → Option D
  | .str s => if s.length ≤ lineL then some (.int s.length) else none
  | .lst xs => some (.int xs.length)
  | .tup xs => some (.int xs.length)
  | _ => none
def atD {α : Type} (xs : List α) (i : Int) : Option α := if 0 ≤ i then xs[i.toNat]? else if -(xs.length : Int) ≤ i then xs[(i + xs.length).toNat]? else none
def dIx : D → D → Option D
  | .lst xs, .int i => atD xs i
  | .tup xs, .int i => atD xs i
  | .str s, .int i => if s.length ≤ lineL then (atD s i).map fun c => .str [c] else none
  | _, _ => none
def sixD (n d : Nat) : Option Int → Nat
  | none => d
  | some v => if v < 0 then (v + (n : Int)).toNat else min v.toNat n
def cutD {α : Type} (xs : List α) (lo hi : Option Int) : List α := (xs.drop (sixD xs.length 0 lo)).take (sixD xs.length xs.length hi - sixD xs.length 0 lo)
def dSl : D → Option Int → Option Int → Option D
  | .lst xs, lo, hi => some (.lst (cutD xs lo hi))
  | .tup xs, lo, hi => some (.tup (cutD xs lo hi))
  | .str s, lo, hi => if s.length ≤ lineL then some (.str (cutD s lo hi)) else none
  | _, _, _ => none
def bls : List D → Option (List Bool)
  | [] => some []
  | .bl b :: r => (bls r).map (b :: ·)
  | _ :: _ => none
def dAll : D → Option D
  | .lst xs => (bls xs).map fun bs => .bl (bs.all id)
  | _ => none
def dAny : D → Option D
  | .lst xs => (bls xs).map fun bs => .bl (bs.any id)
  | _ => none
def dInt : D → Option D
  | .int i => some (.int i)
  | .bl b => some (.int (if b then 1 else 0))
  | _ => none
def dTupOf : D → Option D
  | .lst xs => some (.tup xs)
  | .tup xs => some (.tup xs)
  | _ => none
def strsD : List D → Option (List (List Char))
  | [] => some []
  | .str s :: r => (strsD r).map (s :: ·)
  | _ :: _ => none
def joinC (sep : List Char) : List (List Char) → List Char
  | [] => []
  | [x] => x
  | x :: y :: r => x ++ sep ++ joinC sep (y :: r)
def dJoin : D → D → Option D
  | .str s, .lst xs => (strsD xs).bind fun ys => if (ys.map List.length).sum + ys.length * s.length ≤ lineL then some (.str (joinC s ys)) else none
  | .str s, .tup xs => (strsD xs).bind fun ys => if (ys.map List.length).sum + ys.length * s.length ≤ lineL then some (.str (joinC s ys)) else none
  | _, _ => none
/-- list(x), x a list or a tuple -/
def nSq (a : SE) : NE := fun ρ m => (a ρ m).bind fun x m => match vw m x with
  | some (.lst xs) => .ok xs m
  | some (.tup xs) => .ok xs m
  | _ => .no
/-- list(x), x a text -/
def nStr (a : SE) : NE := fun ρ m => (a ρ m).bind fun x m => match x with
  | .d (.str s) => if s.length ≤ lineL then .ok (s.map fun c => .str [c]) m else .no
  | _ => .no
end DI
namespace DI
def dMulD : D → D → Option D
  | .int i, .int j => dMul (.int i) (.int j)
  | .str s, .int k => if -1000000 ≤ k ∧ k ≤ 1000000 ∧ s.length * k.toNat ≤ lineL then some (.str (List.replicate k.toNat s).flatten) else none
  | .tup xs, .int k => if -1000000 ≤ k ∧ k ≤ 1000 ∧ xs.length ≤ 1000 then some (.tup (List.replicate k.toNat xs).flatten) else none
  | _, _ => none
def intsD : List D → Option (List Int)
  | [] => some []
  | .int i :: r => (intsD r).map (i :: ·)
  | _ :: _ => none
def maxI : List Int → Option Int
  | [] => none
  | [a] => some a
  | a :: r => match maxI r with
    | some b => some (if a < b then b else a)
    | none => none
def minI : List Int → Option Int
  | [] => none
  | [a] => some a
  | a :: r => match minI r with
    | some b => some (if b < a then b else a)
    | none => none
def dMax : D → Option D
  | .lst xs => (intsD xs).bind fun ns => (maxI ns).map .int
  | _ => none
def dMin : D → Option D
  | .lst xs => (intsD xs).bind fun ns => (minI ns).map .int
  | _ => none
def dSum : D → Option D
  | .lst xs => (intsD xs).map fun ns => .int ns.sum
  | _ => none
def dIsD (a b : D) : Option D := match b with
  | .bl c => dIsB c a
  | _ => none
def dNotD (a b : D) : Option D := match b with
  | .bl c => dNotB c a
  | _ => none
def tyP : D → String
  | .non => "NoneType" | .bl _ => "bool" | .int _ => "int" | .str _ => "str" | .lst _ => "list" | .tup _ => "tuple" | .dct _ _ => "" | .ins _ _ _ => ""
/-- isinstance(x, T) -/
def dIsiP (T : String) (x : D) : Option D := if ["int", "str", "bool", "tuple", "list"].contains T && !(tyP x == "") then some (.bl (T == tyP x || (T == "int" && tyP x == "bool"))) else none
/-- what no run of ours comes to -/
def sNo : SS := fun _ _ => .no
def eNo : SE := fun _ _ => .no
end DI
namespace DI
/-- list(range(..)) -/
def nRg1 (a : SE) : NE := fun ρ m => (a ρ m).bind fun x m => match x with
  | .d (.int j) => if j.natAbs ≤ 1000000 then .ok (rng 0 j.toNat) m else .no
  | _ => .no
def nRg2 (a b : SE) : NE := fun ρ m => (a ρ m).bind fun x m => (b ρ m).bind fun y m => match x, y with
  | .d (.int i), .d (.int j) => if i.natAbs ≤ 1000000 ∧ j.natAbs ≤ 1000000 then .ok (rng i (j - i).toNat) m else .no
  | _, _ => .no
end DI
namespace DI
/-- list(x): of a list, a tuple, a text -/
def nSqA (a : SE) : NE := fun ρ m => (a ρ m).bind fun x m => match vw m x with
  | some (.lst xs) => .ok xs m
  | some (.tup xs) => .ok xs m
  | some (.str s) => if s.length ≤ lineL then .ok (s.map fun c => .str [c]) m else .no
  | _ => .no
end DI
namespace DI
/-- x[::-1] -/
def dRev : D → Option D
  | .lst xs => some (.lst xs.reverse)
  | .tup xs => some (.tup xs.reverse)
  | _ => none
end DI
namespace DI
/-- the first place of y -/
def firstIx (y : D) : List D → Option Nat
  | [] => none
  | z :: r => if D.eqv z y then some 0 else (firstIx y r).map (· + 1)
/-- xs.index(y) -/
def dIndex : D → D → Option D
  | .lst xs, y => if flatD y && xs.all flatD then (firstIx y xs).map fun (j : Nat) => .int j else none
  | _, _ => none
/-- xs + ys, lists, as a new list -/
def nCat (a b : SE) : NE := fun ρ m => (a ρ m).bind fun x m => (b ρ m).bind fun y m => match vw m x, vw m y with
  | some (.lst xs), some (.lst ys) => if xs.length + ys.length ≤ lineL then .ok (xs ++ ys) m else .no
  | _, _ => .no
end DI
namespace DI
/-- a list's method of one argument -/
def eMeth (f : D → D → Option D) (a b : SE) : SE := fun ρ m => (a ρ m).bind fun x m => match vw m x with
  | some (.lst _) => (b ρ m).bind fun y m => ofO ((vw m x).bind fun dx => (vw m y).bind fun dy => f dx dy) m
  | _ => .no
end DI
namespace DI
/-! ### exceptions: asked about, tried for -/
/-- isinstance of the handled exception, that stands at the slot 0 -/
def eIsE (a0 : Nat) (b : Bool) : SE := fun ρ m => match ρ[0]? with
  | some (some (PV.raw a)) => if a = a0 then .ok (.d (.bl b)) m else .no
  | _ => .no
def k_told : List Char := ['t', 'o', 'l', 'd']
/-- the law tries a call: what is told, or the name of what is raised -/
def eTry (T : Nat) (q : String) (nm : String → Option (List Char)) (b : SE) : SE := fun ρ m => match m[0]? with
  | some (MO.tab T' q') => if T' = T ∧ q' = q then (match b ρ m with
    | .ok (.d v) m1 => .ok (.d (.tup [.str k_told, v])) m1
    | .ok _ _ => .no
    | .ex e m1 => (match e.pay, nm e.cls with
      | none, some s => .ok (.d (.str s)) m1
      | _, _ => .no)
    | .no => .no) else .no
  | _ => .no
/-- zip of two lists of data -/
def iZipLL (a b : SE) : IE := fun ρ m => (a ρ m).bind fun x m => (b ρ m).bind fun y m => match x, y with
  | .d (.lst xs), .d (.lst ys) => .ok ((xs.zip ys).map fun p => .tup [p.1, p.2]) m
  | _, _ => .no
end DI
namespace DI
/-- s.lstrip(t), s.rstrip(t) -/
def dLstrip : D → D → Option D
  | .str s, .str t => if s.length ≤ lineL then some (.str (s.dropWhile fun c => t.contains c)) else none
  | _, _ => none
def dRstrip : D → D → Option D
  | .str s, .str t => if s.length ≤ lineL then some (.str (s.reverse.dropWhile fun c => t.contains c).reverse) else none
  | _, _ => none
end DI
namespace DI
open PySem PySem.Spec PyProof.Rows L2

def txt (s : List Char) : Str := ⟨(s.map Char.toNat).toArray⟩
/-- the written part, the module's names -/
structure Kx where
  K : PySem.W.Frag
  mg : Str → Option Value
abbrev _root_.L2.Cx.kx (X : Cx) : Kx := ⟨X.K, X.mg⟩
/-- a key of a dict -/
def keyOf : D → Option Key
  | .int i => some (.inl i)
  | .str s => some (.inr (txt s))
  | _ => none
/-! ### data in the abstract heap -/
mutual
inductive Rep (K : Kx) (G : Hp) : V → D → Prop
  | non : Rep K G .non .non
  | bl (b : Bool) : Rep K G (.bl b) (.bl b)
  | int (i : Int) : Rep K G (.int i) (.int i)
  | str (s : List Char) : Rep K G (.str (txt s)) (.str s)
  | lst {a : Addr} {xs : List V} {ds : List D} : SqL K.K G a xs → RepAll K G xs ds → Rep K G (.ref a) (.lst ds)
  | tup {a : Addr} {xs : List V} {ds : List D} : SqT K.K G a xs → RepAll K G xs ds → Rep K G (.ref a) (.tup ds)
  | dct {a : Addr} {kvs : List (Key × V)} {vs : List V} {ks ds : List D} : G a = some (.dK kvs) → ks.map keyOf = kvs.map (fun p => some p.1) → kvs.map (·.2) = vs → RepAll K G vs ds → Rep K G (.ref a) (.dct ks ds)
  | ins {a C dx : Addr} {fs : List (Str × V)} {vs : List V} {c : String} {ns : List String} {ds : List D} : K.mg (Str.ofString c) = some (.ref C) → G a = some (.ins C dx fs) → fs.map (·.1) = ns.map Str.ofString → fs.map (·.2) = vs → RepAll K G vs ds → Rep K G (.ref a) (.ins c ns ds)
inductive RepAll (K : Kx) (G : Hp) : List V → List D → Prop
  | nil : RepAll K G [] []
  | cons {v : V} {vs : List V} {d : D} {ds : List D} : Rep K G v d → RepAll K G vs ds → RepAll K G (v :: vs) (d :: ds)
end
def Sub (G G' : Hp) : Prop := ∀ a o, G a = some o → G' a = some o
theorem Sub.refl (G : Hp) : Sub G G := fun _ _ h => h
theorem Sub.trans {G G1 G2 : Hp} (a : Sub G G1) (b : Sub G1 G2) : Sub G G2 := fun c o h => b c o (a c o h)
theorem Sub.sql {K : PySem.W.Frag} {G G' : Hp} {a : Addr} {xs : List V} (s : Sub G G') (h : SqL K G a xs) : SqL K G' a xs := by
  rcases h with (h | ⟨o, h⟩) | h
  · exact .inl (.inl (s _ _ h))
  · exact .inl (.inr ⟨o, s _ _ h⟩)
  · exact .inr h
theorem Sub.sqt {K : PySem.W.Frag} {G G' : Hp} {a : Addr} {xs : List V} (s : Sub G G') (h : SqT K G a xs) : SqT K G' a xs := by
  rcases h with (h | ⟨o, h⟩) | h
  · exact .inl (.inl (s _ _ h))
  · exact .inl (.inr ⟨o, s _ _ h⟩)
  · exact .inr h
mutual
theorem Rep.mono {K : Kx} {G G' : Hp} (s : Sub G G') : ∀ {v : V} {d : D}, Rep K G v d → Rep K G' v d
  | _, _, .non => .non
  | _, _, .bl b => .bl b
  | _, _, .int i => .int i
  | _, _, .str x => .str x
  | _, _, .lst h r => .lst (s.sql h) (RepAll.mono s r)
  | _, _, .tup h r => .tup (s.sqt h) (RepAll.mono s r)
  | _, _, .dct h e1 e2 r => .dct (s _ _ h) e1 e2 (RepAll.mono s r)
  | _, _, .ins h0 h e1 e2 r => .ins h0 (s _ _ h) e1 e2 (RepAll.mono s r)
theorem RepAll.mono {K : Kx} {G G' : Hp} (s : Sub G G') : ∀ {vs : List V} {ds : List D}, RepAll K G vs ds → RepAll K G' vs ds
  | _, _, .nil => .nil
  | _, _, .cons r t => .cons (Rep.mono s r) (RepAll.mono s t)
end
section
variable {K : Kx} {G : Hp}
theorem RepAll.length : ∀ {vs : List V} {ds : List D}, RepAll K G vs ds → vs.length = ds.length
  | _, _, .nil => rfl
  | _, _, .cons _ t => by simp [RepAll.length t]
theorem RepAll.get : ∀ {vs : List V} {ds : List D} {i : Nat} {d : D}, RepAll K G vs ds → ds[i]? = some d → ∃ v, vs[i]? = some v ∧ Rep K G v d
  | _, _, _, _, .nil, e => by simp at e
  | _, _, 0, _, .cons r _, e => by simp at e; subst e; exact ⟨_, by simp, r⟩
  | _, _, i + 1, _, .cons _ t, e => by
    obtain ⟨v, h1, h2⟩ := RepAll.get (i := i) t (by simpa using e)
    exact ⟨v, by simpa using h1, h2⟩
theorem RepAll.getV : ∀ {vs : List V} {ds : List D} {i : Nat} {v : V}, RepAll K G vs ds → vs[i]? = some v → ∃ d, ds[i]? = some d ∧ Rep K G v d
  | _, _, _, _, .nil, e => by simp at e
  | _, _, 0, _, .cons r _, e => by simp at e; subst e; exact ⟨_, by simp, r⟩
  | _, _, i + 1, _, .cons _ t, e => by
    obtain ⟨v, h1, h2⟩ := RepAll.getV (i := i) t (by simpa using e)
    exact ⟨v, by simpa using h1, h2⟩
theorem RepAll.append : ∀ {vs ws : List V} {ds es : List D}, RepAll K G vs ds → RepAll K G ws es → RepAll K G (vs ++ ws) (ds ++ es)
  | _, _, _, _, .nil, s => s
  | _, _, _, _, .cons r t, s => .cons r (RepAll.append t s)
theorem RepAll.take : ∀ {vs : List V} {ds : List D} (n : Nat), RepAll K G vs ds → RepAll K G (vs.take n) (ds.take n)
  | _, _, 0, _ => .nil
  | _, _, _ + 1, .nil => .nil
  | _, _, n + 1, .cons r t => .cons r (RepAll.take n t)
theorem RepAll.drop : ∀ {vs : List V} {ds : List D} (n : Nat), RepAll K G vs ds → RepAll K G (vs.drop n) (ds.drop n)
  | _, _, 0, r => r
  | _, _, _ + 1, .nil => .nil
  | _, _, n + 1, .cons _ t => RepAll.drop n t
theorem RepAll.set {v : V} {d : D} (r : Rep K G v d) : ∀ {vs : List V} {ds : List D} (i : Nat), RepAll K G vs ds → RepAll K G (vs.set i v) (ds.set i d)
  | _, _, _, .nil => .nil
  | _, _, 0, .cons _ t => .cons r t
  | _, _, i + 1, .cons q t => .cons q (RepAll.set r i t)
theorem RepAll.rep {vs : List V} {ds : List D} (h : RepAll K G vs ds) : ∀ k : Nat, RepAll K G (List.replicate k vs).flatten (List.replicate k ds).flatten
  | 0 => .nil
  | k + 1 => by rw [List.replicate_succ, List.replicate_succ, List.flatten_cons, List.flatten_cons]; exact h.append (RepAll.rep h k)
theorem RepAll.ints : ∀ (ns : List Int), RepAll K G (ns.map V.int) (ns.map D.int)
  | [] => .nil
  | n :: ns => .cons (.int n) (RepAll.ints ns)
end

/-! ### the objects' numbers -/
abbrev Io := List (List Addr)
def ObjR (K : Kx) (G H : Hp) (l : List Addr) : MO → Prop
  | .l1 xs => ∃ a vs, l = [a] ∧ G a = none ∧ H a = some (.lst vs) ∧ RepAll K G vs xs
  | .fz xs => ∃ a vs, l = [a] ∧ G a = some (.lst vs) ∧ RepAll K G vs xs
  | .tab P q => ∃ ps, l = [P] ∧ G P = none ∧ H P = some (.tbl ps) ∧ TriplesOk ps.toList ∧ ∀ (pos : Pos) (cv : Value), codeAmong pos ps.toList = some cv → ∃ c, cv = .ref c ∧ G c = some (LamX.CodeO c (Str.ofString q))
  | .l2 xs => ∃ a as, l = a :: as ∧ G a = none ∧ H a = some (.lst (as.map V.ref)) ∧ Paired (fun b ds => G b = none ∧ ∃ vs, H b = some (.lst vs) ∧ RepAll K G vs ds) as xs
structure GR (K : Kx) (G : Hp) (ι : Io) (m : Mem) (H : Hp) : Prop where
  sub : Sub G H
  len : ι.length = m.length
  nd : ι.flatten.Nodup
  obj : ∀ (i : Nat) (l : List Addr) (o : MO), ι[i]? = some l → m[i]? = some o → ObjR K G H l o
/-- what a step keeps: the frozen part, the objects' numbers, and whatever else is tracked -/
structure Ext (G : Hp) (ι : Io) (H : Hp) (G' : Hp) (ι' : Io) (H' : Hp) : Prop where
  sub : Sub G G'
  pre : ∃ t, ι' = ι ++ t ∧ ∀ a ∈ t.flatten, H a = none
  kp : ∀ a o, H a = some o → a ∉ ι.flatten → H' a = some o
  dm : ∀ a, H' a = none → H a = none
  gk : ∀ a o, G' a = some o → G a = some o ∨ H a = none ∨ a ∈ ι.flatten
theorem Ext.refl (G : Hp) (ι : Io) (H : Hp) : Ext G ι H G ι H := ⟨Sub.refl G, ⟨[], by simp, by simp⟩, fun _ _ h _ => h, fun _ h => h, fun _ _ h => .inl h⟩
theorem Ext.trans {G G1 G2 H H1 H2 : Hp} {ι ι1 ι2 : Io} (a : Ext G ι H G1 ι1 H1) (b : Ext G1 ι1 H1 G2 ι2 H2) : Ext G ι H G2 ι2 H2 := by
  obtain ⟨t, rfl, ht⟩ := a.pre
  obtain ⟨u, rfl, hu⟩ := b.pre
  refine ⟨a.sub.trans b.sub, ⟨t ++ u, by simp, fun x hx => ?_⟩, fun x o h hn => ?_, fun x h => a.dm x (b.dm x h), fun x o h => ?_⟩
  · rw [List.flatten_append, List.mem_append] at hx
    rcases hx with hx | hx
    · exact ht x hx
    · exact a.dm x (hu x hx)
  · refine b.kp x o (a.kp x o h hn) fun hm => ?_
    rw [List.flatten_append, List.mem_append] at hm
    rcases hm with hm | hm
    · exact hn hm
    · rw [ht x hm] at h; cases h
  · rcases b.gk x o h with h | h | h
    · exact a.gk x o h
    · exact .inr (.inl (a.dm x h))
    · rw [List.flatten_append, List.mem_append] at h
      rcases h with h | h
      · exact .inr (.inr h)
      · exact .inr (.inl (ht x h))
def RepV (K : Kx) (G : Hp) (ι : Io) (v : V) : PV → Prop
  | .d x => Rep K G v x
  | .obj i => ∃ a l, ι[i]? = some (a :: l) ∧ v = .ref a
  | .raw a => v = .ref a
theorem Ext.get {G G' H H' : Hp} {ι ι' : Io} (e : Ext G ι H G' ι' H') {i : Nat} {l : List Addr} (h : ι[i]? = some l) : ι'[i]? = some l := by
  obtain ⟨t, rfl, _⟩ := e.pre
  rw [List.getElem?_append_left (List.getElem?_eq_some_iff.mp h).1]
  exact h
theorem RepV.ext {K : Kx} {G G' H H' : Hp} {ι ι' : Io} (e : Ext G ι H G' ι' H') {v : V} {x : PV} (r : RepV K G ι v x) : RepV K G' ι' v x := by
  cases x with
  | d x => exact Rep.mono e.sub r
  | obj i =>
    obtain ⟨a, l, h, rfl⟩ := r
    exact ⟨a, l, e.get h, rfl⟩
  | raw a => exact r
def EnvR (K : Kx) (G : Hp) (ι : Io) (ρ : Env) (σ : L2.St) : Prop :=
  ρ.length = σ.length ∧ ∀ (i : Nat) (x : PV), ρ[i]? = some (some x) → ∃ v, σ[i]? = some (some v) ∧ RepV K G ι v x
theorem EnvR.ext {K : Kx} {G G' H H' : Hp} {ι ι' : Io} (e : Ext G ι H G' ι' H') {ρ : Env} {σ : L2.St} (r : EnvR K G ι ρ σ) : EnvR K G' ι' ρ σ :=
  ⟨r.1, fun i x h => let ⟨v, h1, h2⟩ := r.2 i x h; ⟨v, h1, h2.ext e⟩⟩
theorem EnvR.set {K : Kx} {G : Hp} {ι : Io} {ρ : Env} {σ : L2.St} (r : EnvR K G ι ρ σ) {v : V} {x : PV} (h : RepV K G ι v x) (i : Nat) : EnvR K G ι (ρ.set i (some x)) (σ.set i (some v)) := by
  refine ⟨by simp [r.1], fun j y e => ?_⟩
  by_cases hj : i = j
  · subst hj
    by_cases hl : i < ρ.length
    · rw [List.getElem?_set_self hl] at e
      cases e
      exact ⟨v, List.getElem?_set_self (by rw [← r.1]; exact hl), h⟩
    · rw [List.getElem?_eq_none (by simp; omega)] at e
      cases e
  · rw [List.getElem?_set_ne hj] at e
    obtain ⟨w, h1, h2⟩ := r.2 j y e
    exact ⟨w, by rw [List.getElem?_set_ne hj]; exact h1, h2⟩
theorem EnvR.wipe {K : Kx} {G : Hp} {ι : Io} {ρ : Env} {σ : L2.St} (r : EnvR K G ι ρ σ) : ∀ vs : List Nat, EnvR K G ι (wipeE ρ vs) (wipe σ vs)
  | [] => r
  | v :: vs => by
    have ih := EnvR.wipe r vs
    unfold wipeE L2.wipe
    refine ⟨by simp [ih.1], fun j y e => ?_⟩
    by_cases hj : v = j
    · subst hj
      by_cases hl : v < (wipeE ρ vs).length
      · rw [List.getElem?_set_self hl] at e; cases e
      · rw [List.getElem?_eq_none (by simp; omega)] at e; cases e
    · rw [List.getElem?_set_ne hj] at e
      obtain ⟨w, h1, h2⟩ := ih.2 j y e
      exact ⟨w, by rw [List.getElem?_set_ne hj]; exact h1, h2⟩

/-! ### exceptions as data -/
def ExR (K : Kx) (G H : Hp) (e : Exc) (c : Value) (dx : Option Addr) : Prop :=
  ∃ C : Addr, K.mg (Str.ofString e.cls) = some (.ref C) ∧ c = .ref C ∧ match e.pay with
    | none => dx = none
    | some (f, x) => ∃ a v, dx = some a ∧ H a = some (.xd [(Str.ofString f, v)]) ∧ Rep K G v x
/-- what a computation's end is worth -/
def PostK (K : Kx) (W : XK) (G : Hp) (ι : Io) (H : Hp) (r : Res PV) (Q : VK) : Prop := match r with
  | .ok d m => ∀ v G' ι' H', Ext G ι H G' ι' H' → GR K G' ι' m H' → RepV K G' ι' v d → Q v H'
  | .ex e m => ∀ c dx G' ι' H', Ext G ι H G' ι' H' → GR K G' ι' m H' → ExR K G' H' e c dx → W c dx H'
  | .no => False
abbrev PostE (X : Cx) : XK → Hp → Io → Hp → Res PV → VK → Prop := PostK X.kx
/-- .. in general: what is wanted of a result that is there -/
def PostG {α β : Type} (X : Cx) (R : Hp → Io → β → α → Prop) (W : XK) (G : Hp) (ι : Io) (H : Hp) (r : Res α) (Q : β → Hp → Prop) : Prop := match r with
  | .ok d m => ∀ v G' ι' H', Ext G ι H G' ι' H' → GR X.kx G' ι' m H' → R G' ι' v d → Q v H'
  | .ex e m => ∀ c dx G' ι' H', Ext G ι H G' ι' H' → GR X.kx G' ι' m H' → ExR X.kx G' H' e c dx → W c dx H'
  | .no => False
theorem PostE.ext {X : Cx} {W : XK} {G G1 H H1 : Hp} {ι ι1 : Io} {r : Res PV} {Q : VK} (e : Ext G ι H G1 ι1 H1) (h : PostE X W G ι H r Q) : PostE X W G1 ι1 H1 r Q := by
  cases r with
  | ok d m => exact fun v G' ι' H' x => h v G' ι' H' (e.trans x)
  | ex d m => exact fun c dx G' ι' H' x => h c dx G' ι' H' (e.trans x)
  | no => exact h
/-- the readings -/
def tE (X : Cx) (W : XK) (f : SE) : TE := fun σ H Q => ∃ G ι ρ m, GR X.kx G ι m H ∧ EnvR X.kx G ι ρ σ ∧ PostE X W G ι H (f ρ m) Q
def tA (X : Cx) (W : XK) (f : Env → Mem → Res (List PV)) : TA := fun σ H Q => ∃ G ι ρ m, GR X.kx G ι m H ∧ EnvR X.kx G ι ρ σ ∧ PostG X (fun G ι => Paired (RepV X.kx G ι)) W G ι H (f ρ m) Q
def isB (b : Bool) (x : PV) : Prop := x = .d (.bl b)
def tTe (X : Cx) (W : XK) (f : SE) : TT := fun σ H Q => ∃ G ι ρ m, GR X.kx G ι m H ∧ EnvR X.kx G ι ρ σ ∧ (∀ x m', f ρ m = .ok x m' → ∃ b, x = .d (.bl b)) ∧ PostG X (fun _ _ => isB) W G ι H (f ρ m) Q
structure SEx (X : Cx) (W : XK) (e : Expr) (f : SE) : Prop where
  pe : PE X e (tE X W f)
structure STe (X : Cx) (W : XK) (e : Expr) (f : SE) : Prop where
  pt : PT X e (tTe X W f)
structure SAr (X : Cx) (W : XK) (es : List Expr) (f : List SE) : Prop where
  pa : PA X es (tA X W (eArgs f))
theorem pe_weak {X : Cx} {e : Expr} {t t' : TE} (h : PE X e t) (w : ∀ σ H Q, t' σ H Q → t σ H Q) : PE X e t' := ⟨fun pins s σ H Q I q => h.run pins s σ H Q I (w _ _ _ q)⟩
theorem pt_weak {X : Cx} {e : Expr} {t t' : TT} (h : PT X e t) (w : ∀ σ H Q, t' σ H Q → t σ H Q) : PT X e t' := ⟨fun pins s σ H Q I q => h.run pins s σ H Q I (w _ _ _ q)⟩
theorem pa_weak {X : Cx} {e : List Expr} {t t' : TA} (h : PA X e t) (w : ∀ σ H Q, t' σ H Q → t σ H Q) : PA X e t' := ⟨fun pos pins s σ H Q I q => h.run pos pins s σ H Q I (w _ _ _ q)⟩
theorem ps_weak {X : Cx} {e : Stmt} {t t' : TS} (h : PS X e t) (w : ∀ D σ H, t' D σ H → t D σ H) : PS X e t' := ⟨fun pins s σ H D I q => h.run pins s σ H D I (w _ _ _ q)⟩
theorem pss_weak {X : Cx} {e : List Stmt} {t t' : TS} (h : PSs X e t) (w : ∀ D σ H, t' D σ H → t D σ H) : PSs X e t' := ⟨fun pins s σ H D I q => h.run pins s σ H D I (w _ _ _ q)⟩
end DI
namespace DI
open PySem PySem.Spec PyProof.Rows L2

def RepW (K : Kx) (G H : Hp) (v : V) : D → Prop
  | .lst ds => ∃ a vs, v = .ref a ∧ SqL K.K H a vs ∧ RepAll K G vs ds
  | .tup ds => ∃ a vs, v = .ref a ∧ SqT K.K G a vs ∧ RepAll K G vs ds
  | .non => v = .non
  | .bl b => v = .bl b
  | .int i => v = .int i
  | .str s => v = .str (txt s)
  | .dct ks ds => Rep K G v (.dct ks ds)
  | .ins c ns ds => Rep K G v (.ins c ns ds)
theorem Rep.w {K : Kx} {G H : Hp} (s : Sub G H) {v : V} {d : D} (r : Rep K G v d) : RepW K G H v d := by
  cases r with
  | non => rfl
  | bl b => rfl
  | int i => rfl
  | str x => rfl
  | lst h q => exact ⟨_, _, rfl, s.sql h, q⟩
  | tup h q => exact ⟨_, _, rfl, h, q⟩
  | dct h e1 e2 q => exact .dct h e1 e2 q
  | ins h0 h e1 e2 q => exact .ins h0 h e1 e2 q
theorem RepW.rep {K : Kx} {G H : Hp} (s : Sub G H) {v : V} {d : D} (r : RepW K G H v d) : Rep K H v d := by
  cases d with
  | non => cases (show v = .non from r); exact .non
  | bl b => cases (show v = .bl b from r); exact .bl b
  | int i => cases (show v = .int i from r); exact .int i
  | str x => cases (show v = .str (txt x) from r); exact .str x
  | lst ds => obtain ⟨a, vs, rfl, h, q⟩ := r; exact .lst h (RepAll.mono s q)
  | tup ds => obtain ⟨a, vs, rfl, h, q⟩ := r; exact .tup (s.sqt h) (RepAll.mono s q)
  | dct ks ds => exact Rep.mono s r
  | ins c ns ds => exact Rep.mono s r
theorem RepV.view {K : Kx} {G H : Hp} {ι : Io} {m : Mem} (g : GR K G ι m H) {v : V} {x : PV} {d : D} (r : RepV K G ι v x) (e : vw m x = some d) : RepW K G H v d := by
  cases x with
  | d y => cases e; exact Rep.w g.sub r
  | obj i =>
    obtain ⟨a, l, hl, rfl⟩ := r
    unfold vw at e
    dsimp only at e
    cases hm : m[i]? with
    | none => rw [hm] at e; cases e
    | some o =>
      have q := g.obj i _ o hl hm
      cases o with
      | l1 xs =>
        rw [hm] at e; cases e
        obtain ⟨b, vs, hb, _, h1, h2⟩ := q
        cases hb
        exact ⟨_, vs, rfl, SqL.of h1, h2⟩
      | fz xs =>
        rw [hm] at e; cases e
        obtain ⟨b, vs, hb, h1, h2⟩ := q
        cases hb
        exact ⟨_, vs, rfl, SqL.of (g.sub _ _ h1), h2⟩
      | tab P q => rw [hm] at e; cases e
      | l2 xs => rw [hm] at e; cases e
  | raw a => cases e

/-- an operation's way out: a value, perhaps with new tracked objects -/
def Fin (K : Kx) (G : Hp) (ι : Io) (m : Mem) (H : Hp) (Q : VK) (d : D) : Prop := ∀ w G' H', Ext G ι H G' ι H' → GR K G' ι m H' → Rep K G' w d → Q w H'
theorem Paired.at_l {α β : Type} {R : α → β → Prop} {xs : List α} {ys : List β} (h : Paired R xs ys) {x : α} (hx : x ∈ xs) : ∃ y, R x y := by
  induction h with
  | nil => cases hx
  | cons r t ih =>
    rcases List.mem_cons.mp hx with e | hx
    · exact ⟨_, e ▸ r⟩
    · exact ih hx
theorem Paired.map_in {α β : Type} {R S : α → β → Prop} {xs : List α} {ys : List β} (h : Paired R xs ys) (f : ∀ x ∈ xs, ∀ y, R x y → S x y) : Paired S xs ys := by
  induction h with
  | nil => exact .nil
  | cons r t ih => exact .cons (f _ (by simp) _ r) (ih fun x hx => f x (by simp [hx]))
/-- a new frozen object at p -/
theorem GR.fresh {K : Kx} {G H : Hp} {ι : Io} {m : Mem} (g : GR K G ι m H) {p : Addr} (hp : H p = none) : G p = none ∧ p ∉ ι.flatten := by
  constructor
  · cases q : G p with
    | none => rfl
    | some o => rw [g.sub _ _ q] at hp; cases hp
  · intro hm
    obtain ⟨l, hl, hpl⟩ := List.mem_flatten.mp hm
    obtain ⟨i, hi⟩ := List.mem_iff_getElem?.mp hl
    have hlt : i < m.length := by rw [← g.len]; exact (List.getElem?_eq_some_iff.mp hi).1
    have q := g.obj i l m[i] hi (by simp [hlt])
    cases e : m[i] with
    | l1 xs =>
      rw [e] at q
      obtain ⟨a, vs, rfl, _, h, _⟩ := q
      have : p = a := by simpa using hpl
      subst this
      rw [hp] at h; cases h
    | fz xs =>
      rw [e] at q
      obtain ⟨a, vs, rfl, h, _⟩ := q
      have : p = a := by simpa using hpl
      subst this
      rw [g.sub _ _ h] at hp; cases hp
    | tab P q' =>
      rw [e] at q
      obtain ⟨ps, rfl, _, h, _⟩ := q
      have : p = P := by simpa using hpl
      subst this
      rw [hp] at h; cases h
    | l2 xs =>
      rw [e] at q
      obtain ⟨a, as, rfl, _, h, hr⟩ := q
      rcases List.mem_cons.mp hpl with this | hm
      · subst this
        rw [hp] at h; cases h
      · obtain ⟨ds, hb⟩ := Paired.at_l hr hm
        obtain ⟨_, vs, h2, _⟩ := hb
        rw [hp] at h2; cases h2
theorem sub_upd {G : Hp} {p : Addr} {o : HO} (h : G p = none) : Sub G (upd G p o) := fun a u e => by
  rw [upd_ne (ne_of_none e h)]; exact e
theorem sub_upd2 {G H : Hp} {p : Addr} {o : HO} (s : Sub G H) : Sub (upd G p o) (upd H p o) := fun a u e => by
  by_cases hp : a = p
  · subst hp; rw [upd_same] at e ⊢; exact e
  · rw [upd_ne hp] at e ⊢; exact s _ _ e
theorem sub_updR {G H : Hp} {p : Addr} {o : HO} (s : Sub G H) (h : G p = none) : Sub G (upd H p o) := fun a u e => by
  rw [upd_ne (ne_of_none e h)]; exact s _ _ e
theorem ObjR.mono {K : Kx} {G G' H H' : Hp} {l : List Addr} {o : MO} (r : ObjR K G H l o) (s : Sub G G') (k : ∀ a ∈ l, (G a = none → G' a = none) ∧ H' a = H a) : ObjR K G' H' l o := by
  cases o with
  | l1 xs =>
    obtain ⟨a, vs, rfl, h0, h1, h2⟩ := r
    have q := k a (by simp)
    exact ⟨a, vs, rfl, q.1 h0, by rw [q.2]; exact h1, RepAll.mono s h2⟩
  | fz xs =>
    obtain ⟨a, vs, rfl, h1, h2⟩ := r
    exact ⟨a, vs, rfl, s _ _ h1, RepAll.mono s h2⟩
  | tab P q =>
    obtain ⟨ps, rfl, h0, h1, h2, h3⟩ := r
    have q := k P (by simp)
    refine ⟨ps, rfl, q.1 h0, by rw [q.2]; exact h1, h2, fun pos cv hc => ?_⟩
    obtain ⟨c, e1, e2⟩ := h3 pos cv hc
    exact ⟨c, e1, s _ _ e2⟩
  | l2 xs =>
    obtain ⟨a, as, rfl, h0, h1, h2⟩ := r
    have q := k a (by simp)
    refine ⟨a, as, rfl, q.1 h0, by rw [q.2]; exact h1, Paired.map_in h2 fun b hb ds ⟨n, vs, h3, h4⟩ => ?_⟩
    have q2 := k b (by simp [hb])
    exact ⟨q2.1 n, vs, by rw [q2.2]; exact h3, RepAll.mono s h4⟩
theorem mem_io {ι : Io} {i : Nat} {l : List Addr} (h : ι[i]? = some l) {a : Addr} (ha : a ∈ l) : a ∈ ι.flatten :=
  List.mem_flatten.mpr ⟨l, List.mem_of_getElem? h, ha⟩
theorem GR.lay {K : Kx} {G H : Hp} {ι : Io} {m : Mem} (g : GR K G ι m H) {p : Addr} (hp : H p = none) (o : HO) : GR K (upd G p o) ι m (upd H p o) ∧ Ext G ι H (upd G p o) ι (upd H p o) := by
  obtain ⟨g1, g2⟩ := g.fresh hp
  refine ⟨⟨sub_upd2 g.sub, g.len, g.nd, fun i l o' hl ho => (g.obj i l o' hl ho).mono (sub_upd g1) fun a ha => ?_⟩, sub_upd g1, ⟨[], by simp, by simp⟩, fun a u e _ => by rw [upd_ne (ne_of_none e hp)]; exact e, fun a e => ?_, fun a u e => ?_⟩
  · have hne : a ≠ p := fun e => g2 (e ▸ mem_io hl ha)
    exact ⟨fun h => by rw [upd_ne hne]; exact h, by rw [upd_ne hne]⟩
  · by_cases h : a = p
    · subst h; exact hp
    · rw [upd_ne h] at e; exact e
  · by_cases h : a = p
    · subst h; exact .inr (.inl hp)
    · rw [upd_ne h] at e; exact .inl e
theorem GR.layL {K : Kx} {G H : Hp} {ι : Io} {m : Mem} (g : GR K G ι m H) {p : Addr} (hp : H p = none) {vs : List V} {ds : List D} (r : RepAll K G vs ds) {Q : VK} (fin : Fin K G ι m H Q (.lst ds)) : Q (.ref p) (upd H p (.lst vs)) := by
  obtain ⟨g1, x⟩ := g.lay hp (.lst vs)
  exact fin _ _ _ x g1 (.lst (SqL.of upd_same) (RepAll.mono x.sub r))
theorem GR.layT {K : Kx} {G H : Hp} {ι : Io} {m : Mem} (g : GR K G ι m H) {p : Addr} (hp : H p = none) {vs : List V} {ds : List D} (r : RepAll K G vs ds) {Q : VK} (fin : Fin K G ι m H Q (.tup ds)) : Q (.ref p) (upd H p (.tup vs)) := by
  obtain ⟨g1, x⟩ := g.lay hp (.tup vs)
  exact fin _ _ _ x g1 (.tup (SqT.of upd_same) (RepAll.mono x.sub r))
theorem Fin.here {K : Kx} {G H : Hp} {ι : Io} {m : Mem} {Q : VK} {d : D} (f : Fin K G ι m H Q d) (g : GR K G ι m H) {w : V} (r : Rep K G w d) : Q w H := f w G H (Ext.refl ..) g r

theorem ite_some {α : Type} {c : Prop} [Decidable c] {a d : α} (h : (if c then some a else none) = some d) : c ∧ a = d := by
  split at h
  · exact ⟨by assumption, Option.some.inj h⟩
  · cases h

/-! ### operations -/
def Op2 (X : Cx) (f : D → D → Option D) (r : R2) : Prop := ∀ {G ι m H v u x y d} {Q : VK}, GR X.kx G ι m H → RepW X.kx G H v x → RepW X.kx G H u y → f x y = some d → Fin X.kx G ι m H Q d → r v u H Q
def Op1 (X : Cx) (f : D → Option D) (r : V → Hp → VK → Prop) : Prop := ∀ {G ι m H v x d} {Q : VK}, GR X.kx G ι m H → RepW X.kx G H v x → f x = some d → Fin X.kx G ι m H Q d → r v H Q
section
variable {X : Cx} {W : XK} {a b c : Expr} {fa fb fc : SE} {pos : Pos}
theorem tE_mono {f : SE} {σ : L2.St} {H : Hp} {Q Q' : VK} (h : tE X W f σ H Q) (q : ∀ v H', Q v H' → Q' v H') : tE X W f σ H Q' := by
  obtain ⟨G, ι, ρ, m, g, ev, p⟩ := h
  refine ⟨G, ι, ρ, m, g, ev, ?_⟩
  cases hr : f ρ m with
  | no => rw [hr] at p; exact p
  | ex e m1 => rw [hr] at p; exact p
  | ok x m1 => rw [hr] at p; exact fun v G' ι' H' e g r => q _ _ (p v G' ι' H' e g r)
theorem post_tE {f : SE} {G : Hp} {ι : Io} {ρ : Env} {m : Mem} {σ : L2.St} {H : Hp} {k : PV → Mem → Res PV} {Q : VK} (g : GR X.kx G ι m H) (ev : EnvR X.kx G ι ρ σ) (p : PostE X W G ι H ((f ρ m).bind k) Q) :
    tE X W f σ H fun v H' => ∃ G' ι' m' x, Ext G ι H G' ι' H' ∧ GR X.kx G' ι' m' H' ∧ EnvR X.kx G' ι' ρ σ ∧ RepV X.kx G' ι' v x ∧ PostE X W G' ι' H' (k x m') Q := by
  refine ⟨G, ι, ρ, m, g, ev, ?_⟩
  cases hr : f ρ m with
  | no => rw [hr] at p; exact p
  | ex e m1 => rw [hr] at p; exact p
  | ok x m1 => rw [hr] at p; exact fun v G' ι' H' e g r => ⟨G', ι', m1, x, e, g, ev.ext e, r, PostE.ext e p⟩
theorem post_ofO {G H : Hp} {ι : Io} {m : Mem} {o : Option D} {Q : VK} (p : PostE X W G ι H (ofO o m) Q) : ∃ d, o = some d ∧ Fin X.kx G ι m H Q d := by
  cases o with
  | none => exact p.elim
  | some d => exact ⟨d, rfl, fun w G' H' e g r => p w G' ι H' e g r⟩
theorem se_e2 {op : Operator} {f : D → D → Option D} {r : R2} (ho : OpR X (binaryOp op) r) (hf : Op2 X f r) (ha : SEx X W a fa) (hb : SEx X W b fb) : SEx X W (.BinOp a op b pos) (e2 f fa fb) := by
  refine ⟨pe_weak (pe_op ho ha.pe hb.pe) fun σ H Q ⟨G, ι, ρ, m, g, ev, p⟩ => ?_⟩
  refine tE_mono (post_tE g ev p) fun v H1 ⟨G1, ι1, m1, x, x1, g1, ev1, r1, p1⟩ => ?_
  refine tE_mono (post_tE g1 ev1 p1) fun u H2 ⟨G2, ι2, m2, y, x2, g2, ev2, r2, p2⟩ => ?_
  obtain ⟨d, e, fin⟩ := post_ofO (H := H2) p2
  cases hx : vw m2 x with
  | none => rw [hx] at e; cases e
  | some dx =>
    cases hy : vw m2 y with
    | none => rw [hx, hy] at e; cases e
    | some dy =>
      rw [hx, hy] at e
      exact hf g2 ((r1.ext x2).view g2 hx) (r2.view g2 hy) e fin
end
end DI
namespace DI
open PySem PySem.Spec PyProof.Rows L2

section
variable {X : Cx}
theorem lineL_eq : lineL = sizeLine := by rw [sizeLine_eq]; rfl
theorem txt_length (s : List Char) : (txt s).length = s.length := by simp [txt, Str.length]
theorem txt_append (s t : List Char) : txt s ++ txt t = txt (s ++ t) := by
  show Str.append _ _ = _
  simp [txt, Str.append]
theorem txt_inj {s t : List Char} (h : txt s = txt t) : s = t := by
  unfold txt at h
  injection h with h
  have h2 : s.map Char.toNat = t.map Char.toNat := by simpa using congrArg Array.toList h
  have inj : ∀ (a b : List Char), a.map Char.toNat = b.map Char.toNat → a = b := by
    intro a
    induction a with
    | nil => intro b hb; cases b with
      | nil => rfl
      | cons _ _ => simp at hb
    | cons x xs ih => intro b hb; cases b with
      | nil => simp at hb
      | cons y ys =>
        simp only [List.map_cons, List.cons.injEq] at hb
        have e : x = y := Char.ext (UInt32.toNat_inj.mp hb.1)
        rw [e, ih ys hb.2]
  exact inj _ _ h2
theorem txt_eq (s t : List Char) : (txt s = txt t) ↔ s = t := ⟨txt_inj, fun h => by rw [h]⟩
/-! ### + -/
theorem op_catQ : OpR X (binaryOp .Add) (fun x y H Q => ∃ a b xs ys, x = .ref a ∧ y = .ref b ∧ SqL X.K H a xs ∧ SqL X.K H b ys ∧ xs.length + ys.length ≤ sizeLine ∧ ∀ p, H p = none → Q (.ref p) (upd H p (.lst (xs ++ ys)))) := by
  intro pins s σ H x y v u Q I rx ry h
  obtain ⟨a, b, xs, ys, rfl, rfl, ha, hb, hz, q⟩ := h
  cases rx
  cases ry
  obtain ⟨its, r1, p1, _⟩ := I.list ha
  obtain ⟨its2, r2, p2, _⟩ := I.list hb
  obtain ⟨⟨cls, dd, data, sl⟩, ho, hc, n, hd⟩ := id p1.isList
  obtain ⟨⟨cls2, dd2, data2, sl2⟩, ho2, hc2, n2, hd2⟩ := id p2.isList
  simp only at hc hd hc2 hd2
  subst hc hd hc2 hd2
  have e : its.toArray ++ its2.toArray = (its ++ its2).toArray := by simp
  refine concat_meets ⟨_, ho, rfl⟩ ⟨_, ho2, rfl⟩ noFill_list_add seq_list_add PySem.F.slot_list_add PySem.F.entry_list_add (PySem.F.args_list_add_2 _ _) (list_addW a b its.toArray its2.toArray n n2 dd dd2 sl sl2 (by have := r1.length; have := r2.length; simp; omega)) ⟨ho, ho2, ?_⟩
  rw [e]
  exact ⟨.ref _, _, I.lnew (t' := s.toks) (r1.append r2) (by rw [List.length_append]; omega), rfl, q _ I.fresh⟩
def rAddD (K : PySem.W.Frag) : R2 := fun x y H Q => rI0 (fun i j => .int (i + j)) x y H Q ∨ (∃ i j, x = .str i ∧ y = .str j ∧ i.length + j.length ≤ sizeLine ∧ Q (.str (i ++ j)) H) ∨
  (∃ a b xs ys, x = .ref a ∧ y = .ref b ∧ SqL K H a xs ∧ SqL K H b ys ∧ xs.length + ys.length ≤ sizeLine ∧ ∀ p, H p = none → Q (.ref p) (upd H p (.lst (xs ++ ys)))) ∨ rCatA K x y H Q
theorem op_addD : OpR X (binaryOp .Add) (rAddD X.K) := op_add.or (op_add_str.or (op_catQ.or op_catA))
theorem ds_add : Op2 X dAdd (rAddD X.K) := by
  intro G ι m H v u x y d Q g rx ry e fin
  cases x with
  | int i =>
    cases y with
    | int j =>
      cases (show v = .int i from rx); cases (show u = .int j from ry); cases e
      exact .inl ⟨i, j, rfl, rfl, fin.here g (.int _)⟩
    | _ => cases e
  | str i =>
    cases y with
    | str j =>
      cases (show v = .str (txt i) from rx); cases (show u = .str (txt j) from ry)
      obtain ⟨h, e⟩ := ite_some e
      · cases e
        refine .inr (.inl ⟨_, _, rfl, rfl, by rw [txt_length, txt_length, ← lineL_eq]; exact h, ?_⟩)
        rw [txt_append]
        exact fin.here g (.str _)
    | _ => cases e
  | lst xs =>
    cases y with
    | lst ys =>
      obtain ⟨a, vs, rfl, h1, r1⟩ := rx
      obtain ⟨b, ws, rfl, h2, r2⟩ := ry
      obtain ⟨h, e⟩ := ite_some e
      · cases e
        refine .inr (.inr (.inl ⟨a, b, vs, ws, rfl, rfl, h1, h2, by rw [r1.length, r2.length, ← lineL_eq]; exact h, fun p hp => g.layL hp (r1.append r2) fin⟩))
    | _ => cases e
  | tup xs =>
    cases y with
    | tup ys =>
      obtain ⟨a, vs, rfl, h1, r1⟩ := rx
      obtain ⟨b, ws, rfl, h2, r2⟩ := ry
      obtain ⟨h, e⟩ := ite_some e
      · cases e
        refine .inr (.inr (.inr ⟨a, b, vs, ws, rfl, rfl, g.sub.sqt h1, g.sub.sqt h2, by rw [r1.length, r2.length, ← lineL_eq]; exact h, fun z => ?_, fun z1 z2 => ?_, fun _ _ p hp => g.layT hp (r1.append r2) fin⟩))
        · subst z
          cases r1
          exact fin.here g (.tup h2 r2)
        · subst z2
          cases r2
          rw [List.append_nil] at fin
          exact fin.here g (.tup h1 r1)
    | _ => cases e
  | _ => cases e
end
end DI
namespace DI
open PySem PySem.Spec PyProof.Rows L2
section
variable {X : Cx}
/-! ### ints -/
theorem ds_sub : Op2 X dSub (rI0 fun i j => .int (i - j)) := by
  intro G ι m H v u x y d Q g rx ry e fin
  cases x <;> cases y <;> first
    | (cases e; done)
    | (rename_i i j; cases (show v = .int i from rx); cases (show u = .int j from ry); cases e; exact ⟨i, j, rfl, rfl, fin.here g (.int _)⟩)
theorem small64_of {i : Int} (h : small64 i = true) : -(2 ^ 64) < i ∧ i < 2 ^ 64 := by
  have := of_decide_eq_true h
  omega
theorem ds_mul : Op2 X dMul (rI CMul fun i j => .int (i * j)) := by
  intro G ι m H v u x y d Q g rx ry e fin
  cases x <;> cases y <;> first
    | (cases e; done)
    | (rename_i i j; cases (show v = .int i from rx); cases (show u = .int j from ry); obtain ⟨h, e⟩ := ite_some e; cases e
       refine ⟨i, j, rfl, rfl, ?_, fin.here g (.int _)⟩
       rcases Bool.or_eq_true_iff.mp h with h | h
       · exact .inl (small64_of h)
       · exact .inr (small64_of h))
theorem ds_mod : Op2 X dMod (rI (fun _ j => 0 < j) fun i j => .int (i % j)) := by
  intro G ι m H v u x y d Q g rx ry e fin
  cases x <;> cases y <;> first
    | (cases e; done)
    | (rename_i i j; cases (show v = .int i from rx); cases (show u = .int j from ry); obtain ⟨h, e⟩ := ite_some e; cases e
       exact ⟨i, j, rfl, rfl, h, fin.here g (.int _)⟩)
theorem ds_div : Op2 X dDiv (rI CDiv fun i j => .int (i / j)) := by
  intro G ι m H v u x y d Q g rx ry e fin
  cases x <;> cases y <;> first
    | (cases e; done)
    | (rename_i i j; cases (show v = .int i from rx); cases (show u = .int j from ry); obtain ⟨h, e⟩ := ite_some e; cases e
       exact ⟨i, j, rfl, rfl, h, fin.here g (.int _)⟩)
theorem ds_pow : Op2 X dPow (rI CPow fun i j => .int (i ^ j.toNat)) := by
  intro G ι m H v u x y d Q g rx ry e fin
  cases x <;> cases y <;> first
    | (cases e; done)
    | (rename_i i j; cases (show v = .int i from rx); cases (show u = .int j from ry); obtain ⟨h, e⟩ := ite_some e; cases e
       exact ⟨i, j, rfl, rfl, h, fin.here g (.int _)⟩)
theorem ds_neg : Op1 X dNeg (rU fun i => .int (-i)) := by
  intro G ι m H v x d Q g rx e fin
  cases x <;> first
    | (cases e; done)
    | (rename_i i; cases (show v = .int i from rx); cases e; exact ⟨i, rfl, fin.here g (.int _)⟩)
theorem ds_lt : Op2 X dLt (rI0 fun i j => .bl (decide (i < j))) := by
  intro G ι m H v u x y d Q g rx ry e fin
  cases x <;> cases y <;> first
    | (cases e; done)
    | (rename_i i j; cases (show v = .int i from rx); cases (show u = .int j from ry); cases e; exact ⟨i, j, rfl, rfl, fin.here g (.bl _)⟩)
theorem ds_le : Op2 X dLe (rI0 fun i j => .bl (decide (i ≤ j))) := by
  intro G ι m H v u x y d Q g rx ry e fin
  cases x <;> cases y <;> first
    | (cases e; done)
    | (rename_i i j; cases (show v = .int i from rx); cases (show u = .int j from ry); cases e; exact ⟨i, j, rfl, rfl, fin.here g (.bl _)⟩)
theorem ds_gt : Op2 X dGt (rI0 fun i j => .bl (decide (j < i))) := by
  intro G ι m H v u x y d Q g rx ry e fin
  cases x <;> cases y <;> first
    | (cases e; done)
    | (rename_i i j; cases (show v = .int i from rx); cases (show u = .int j from ry); cases e; exact ⟨i, j, rfl, rfl, fin.here g (.bl _)⟩)
theorem ds_ge : Op2 X dGe (rI0 fun i j => .bl (decide (j ≤ i))) := by
  intro G ι m H v u x y d Q g rx ry e fin
  cases x <;> cases y <;> first
    | (cases e; done)
    | (rename_i i j; cases (show v = .int i from rx); cases (show u = .int j from ry); cases e; exact ⟨i, j, rfl, rfl, fin.here g (.bl _)⟩)
/-! ### == -/
mutual
def D.py : D → PyData
  | .non => .none | .bl b => .bool b | .int i => .int i | .str s => .str (txt s)
  | .lst xs => .list (D.pyAll xs) | .tup xs => .tuple (D.pyAll xs) | .dct _ _ => .none | .ins _ _ _ => .none
def D.pyAll : List D → List PyData
  | [] => []
  | x :: xs => D.py x :: D.pyAll xs
end
theorem depAll_cons {x : D} {xs : List D} {n : Nat} (h : D.depAll (x :: xs) ≤ n) : x.dep ≤ n ∧ D.depAll xs ≤ n := by
  have e : D.depAll (x :: xs) = max x.dep (D.depAll xs) := rfl
  rw [e] at h
  omega
theorem dep_lst {xs : List D} {n : Nat} (h : (D.lst xs).dep ≤ n) : D.depAll xs ≤ n := by
  have e : (D.lst xs).dep = D.depAll xs + 1 := rfl
  omega
theorem dep_tup {xs : List D} {n : Nat} (h : (D.tup xs).dep ≤ n) : D.depAll xs ≤ n := by
  have e : (D.tup xs).dep = D.depAll xs + 1 := rfl
  omega
theorem dep_dct {ks vs : List D} (h : (D.dct ks vs).dep ≤ 64) : False := absurd (show 1000 ≤ 64 from h) (by decide)
theorem dep_ins {c : String} {ns : List String} {vs : List D} (h : (D.ins c ns vs).dep ≤ 64) : False := absurd (show 1000 ≤ 64 from h) (by decide)
mutual
theorem Rep.dp {K : Kx} {H : Hp} : ∀ {v : V} {d : D}, Rep K H v d → d.dep ≤ 64 → Dp K.K H v d.py
  | _, _, .non, _ => .non
  | _, _, .bl b, _ => .bl b
  | _, _, .int i, _ => .int i
  | _, _, .str x, _ => .str _
  | _, _, .lst h r, z => .lst h (RepAll.dp r (dep_lst z))
  | _, _, .tup h r, z => .tup h (RepAll.dp r (dep_tup z))
  | _, _, .dct _ _ _ _, z => (dep_dct z).elim
  | _, _, .ins _ _ _ _ _, z => (dep_ins z).elim
theorem RepAll.dp {K : Kx} {H : Hp} : ∀ {vs : List V} {ds : List D}, RepAll K H vs ds → D.depAll ds ≤ 64 → DpAll K.K H vs (D.pyAll ds)
  | _, _, .nil, _ => .nil
  | _, _, .cons r t, z => .cons (Rep.dp r (depAll_cons z).1) (RepAll.dp t (depAll_cons z).2)
end
mutual
theorem can_py : ∀ d : D, d.py.canLay0 = true
  | .non => rfl | .bl _ => rfl | .int _ => rfl | .dct _ _ => rfl | .ins _ _ _ => rfl
  | .str s => by
    show PyData.strOk (txt s) = true
    unfold PyData.strOk txt
    simp only [List.all_toArray, List.all_map, List.all_eq_true]
    intro c _
    have h := c.valid
    have h2 : c.toNat < 0x110000 := by
      have : c.val.toNat < 0x110000 := by
        rcases h with h | h
        · exact Nat.lt_trans h (by decide)
        · exact h.2
      exact this
    simpa using h2
  | .lst xs => by show PyData.canLayAll0 (D.pyAll xs) = true; exact can_pyAll xs
  | .tup xs => by show PyData.canLayAll0 (D.pyAll xs) = true; exact can_pyAll xs
theorem can_pyAll : ∀ ds : List D, PyData.canLayAll0 (D.pyAll ds) = true
  | [] => rfl
  | x :: xs => by
    show ((D.py x).canLay0 && PyData.canLayAll0 (D.pyAll xs)) = true
    rw [can_py x, can_pyAll xs]; rfl
end
mutual
theorem dep_py : ∀ d : D, d.dep ≤ 64 → d.py.depth = d.dep
  | .non, _ => rfl | .bl _, _ => rfl | .int _, _ => rfl | .str _, _ => rfl
  | .dct _ _, z => (dep_dct z).elim | .ins _ _ _, z => (dep_ins z).elim
  | .lst xs, z => by show PyData.depthAll (D.pyAll xs) + 1 = D.depAll xs + 1; rw [dep_pyAll xs (dep_lst z)]
  | .tup xs, z => by show PyData.depthAll (D.pyAll xs) + 1 = D.depAll xs + 1; rw [dep_pyAll xs (dep_tup z)]
theorem dep_pyAll : ∀ ds : List D, D.depAll ds ≤ 64 → PyData.depthAll (D.pyAll ds) = D.depAll ds
  | [], _ => rfl
  | x :: xs, z => by
    show max (PyData.depth (D.py x)) (PyData.depthAll (D.pyAll xs)) = max (D.dep x) (D.depAll xs)
    rw [dep_py x (depAll_cons z).1, dep_pyAll xs (depAll_cons z).2]
end
mutual
theorem eqv_py : ∀ a b : D, a.dep ≤ 64 → b.dep ≤ 64 → PyData.eqv a.py b.py = D.eqv a b
  | .dct _ _, _, z, _ => (dep_dct z).elim
  | .ins _ _ _, _, z, _ => (dep_ins z).elim
  | .non, b, _, z => by cases b <;> first | rfl | exact (dep_dct z).elim | exact (dep_ins z).elim
  | .bl _, b, _, z => by cases b <;> first | rfl | exact (dep_dct z).elim | exact (dep_ins z).elim
  | .int _, b, _, z => by cases b <;> first | rfl | exact (dep_dct z).elim | exact (dep_ins z).elim
  | .str s, b, _, z => by
    cases b <;> first
      | rfl
      | exact (dep_dct z).elim
      | exact (dep_ins z).elim
      | (rename_i t
         show (txt s == txt t) = (s == t)
         by_cases h : s = t
         · subst h; simp
         · have h2 : ¬ txt s = txt t := fun z => h (txt_inj z)
           rw [beq_eq_false_iff_ne.mpr h, beq_eq_false_iff_ne.mpr h2])
  | .lst xs, b, z1, z => by
    cases b <;> first
      | rfl
      | exact (dep_dct z).elim
      | exact (dep_ins z).elim
      | (rename_i ys; exact eqv_pyAll xs ys (dep_lst z1) (dep_lst z))
  | .tup xs, b, z1, z => by
    cases b <;> first
      | rfl
      | exact (dep_dct z).elim
      | exact (dep_ins z).elim
      | (rename_i ys; exact eqv_pyAll xs ys (dep_tup z1) (dep_tup z))
theorem eqv_pyAll : ∀ a b : List D, D.depAll a ≤ 64 → D.depAll b ≤ 64 → PyData.eqvAll (D.pyAll a) (D.pyAll b) = D.eqvAll a b
  | [], [], _, _ => rfl
  | [], _ :: _, _, _ => rfl
  | _ :: _, [], _, _ => rfl
  | x :: xs, y :: ys, z1, z2 => by
    show (PyData.eqv x.py y.py && PyData.eqvAll (D.pyAll xs) (D.pyAll ys)) = (D.eqv x y && D.eqvAll xs ys)
    rw [eqv_py x y (depAll_cons z1).1 (depAll_cons z2).1, eqv_pyAll xs ys (depAll_cons z1).2 (depAll_cons z2).2]
end
theorem shaped_py {d : D} (h : d.dep ≤ 64) : SeqAt.shaped d.py = true := by
  unfold SeqAt.shaped
  rw [can_py, dep_py d h, decide_eq_true h]; rfl
theorem ds_eq : Op2 X dEq (rEqD X.K) := by
  intro G ι m H v u x y d Q g rx ry e fin
  obtain ⟨⟨h1, h2⟩, e⟩ := ite_some e
  cases e
  refine ⟨x.py, y.py, (rx.rep g.sub).dp h1, (ry.rep g.sub).dp h2, shaped_py h1, shaped_py h2, ?_⟩
  rw [eqv_py x y h1 h2]
  exact fin.here g (.bl _)
theorem ds_ne : Op2 X dNe (rNeD X.K) := by
  intro G ι m H v u x y d Q g rx ry e fin
  obtain ⟨⟨h1, h2⟩, e⟩ := ite_some e
  cases e
  refine ⟨x.py, y.py, (rx.rep g.sub).dp h1, (ry.rep g.sub).dp h2, shaped_py h1, shaped_py h2, ?_⟩
  rw [eqv_py x y h1 h2]
  exact fin.here g (.bl _)
/-! ### is -/
theorem RepW.non {K : Kx} {G H : Hp} {v : V} {x : D} (r : RepW K G H v x) : decide (v = .non) = match x with | .non => true | _ => false := by
  cases x with
  | non => cases (show v = .non from r); rfl
  | bl b => cases (show v = .bl b from r); rfl
  | int b => cases (show v = .int b from r); rfl
  | str b => cases (show v = .str (txt b) from r); simp
  | lst b => obtain ⟨a, vs, rfl, _⟩ := r; rfl
  | tup b => obtain ⟨a, vs, rfl, _⟩ := r; rfl
  | dct ks ds => cases (show Rep K G v (.dct ks ds) from r); rfl
  | ins c ns ds => cases (show Rep K G v (.ins c ns ds) from r); rfl
def rIsNo : V → Hp → VK → Prop := fun x H Q => Q (.bl (decide (x = .non))) H
def rNotNo : V → Hp → VK → Prop := fun x H Q => Q (.bl (!decide (x = .non))) H
theorem ds_isN : Op1 X dIsN rIsNo := by
  intro G ι m H v x d Q g rx e fin
  show Q (.bl (decide (v = .non))) H
  rw [rx.non]
  cases x <;> (cases e; exact fin.here g (.bl _))
theorem ds_notN : Op1 X dNotN rNotNo := by
  intro G ι m H v x d Q g rx e fin
  show Q (.bl (!decide (v = .non))) H
  rw [rx.non]
  cases x <;> (cases e; exact fin.here g (.bl _))
/-! ### in -/
theorem RepW.sc {K : Kx} {G H : Hp} {v : V} {x : D} (r : RepW K G H v x) (f : flatD x = true) : Rep K G v x := by
  cases x with
  | non => cases (show v = .non from r); exact .non
  | bl b => cases (show v = .bl b from r); exact .bl b
  | int b => cases (show v = .int b from r); exact .int b
  | str b => cases (show v = .str (txt b) from r); exact .str b
  | lst b => cases f
  | tup b => cases f
  | dct _ _ => cases f
  | ins _ _ _ => cases f
theorem Rep.flat {K : Kx} {G : Hp} {v : V} {x : D} (r : Rep K G v x) (f : flatD x = true) : flatV v = true := by
  cases r <;> first | rfl | cases f
theorem RepAll.flat {K : Kx} {G : Hp} : ∀ {vs : List V} {xs : List D}, RepAll K G vs xs → xs.all flatD = true → vs.all flatV = true
  | _, _, .nil, _ => rfl
  | _, _, .cons r t, f => by
    rw [List.all_cons, Bool.and_eq_true] at f ⊢
    exact ⟨r.flat f.1, RepAll.flat t f.2⟩
theorem Rep.eqV {K : Kx} {G : Hp} {v u : V} {x y : D} (r : Rep K G v x) (q : Rep K G u y) (fx : flatD x = true) (fy : flatD y = true) : L2.eqV v u = D.eqv x y := by
  cases r <;> cases q <;> first
    | rfl
    | (cases fx; done)
    | (cases fy; done)
    | (rename_i s t
       show (txt s == txt t) = (s == t)
       by_cases h : s = t
       · subst h; simp
       · have h2 : ¬ txt s = txt t := fun z => h (txt_inj z)
         rw [beq_eq_false_iff_ne.mpr h, beq_eq_false_iff_ne.mpr h2])
theorem RepAll.inV {K : Kx} {G : Hp} {v : V} {x : D} (r : Rep K G v x) (fx : flatD x = true) : ∀ {vs : List V} {xs : List D}, RepAll K G vs xs → xs.all flatD = true → L2.inV v vs = xs.any fun y => D.eqv y x
  | _, _, .nil, _ => rfl
  | _, _, .cons q t, f => by
    rw [List.all_cons, Bool.and_eq_true] at f
    have ih := RepAll.inV r fx t f.2
    unfold L2.inV at ih ⊢
    rw [List.any_cons, List.any_cons, q.eqV r f.1 fx, ih]
theorem mem_txt (c : Char) (s : List Char) : decide (c.toNat ∈ (txt s).cps.toList) = s.contains c := by
  unfold txt
  simp only [List.toList_toArray, List.mem_map]
  by_cases h : c ∈ s
  · have e1 : (∃ a, a ∈ s ∧ a.toNat = c.toNat) := ⟨c, h, rfl⟩
    rw [decide_eq_true e1, List.contains_iff_mem.mpr h]
  · have e1 : ¬ (∃ a, a ∈ s ∧ a.toNat = c.toNat) := by
      rintro ⟨a, ha, e⟩
      have : a = c := Char.ext (UInt32.toNat_inj.mp e)
      exact h (this ▸ ha)
    rw [decide_eq_false e1]
    cases q : s.contains c with
    | false => rfl
    | true => exact absurd (List.contains_iff_mem.mp q) h
theorem txt_one (c : Char) : txt [c] = ⟨#[c.toNat]⟩ := rfl
def rInD (K : PySem.W.Frag) : R2 := fun x y H Q => rIn K false x y H Q ∨ (∃ (c : Nat) (z : Str), x = .str ⟨#[c]⟩ ∧ y = .str z ∧ Q (.bl (decide (c ∈ z.cps.toList))) H)
theorem op_inD : OpR X (compareOp .In) (rInD X.K) := op_in_seq.or op_in_sign
def rNotInD (K : PySem.W.Frag) : R2 := fun x y H Q => rIn K true x y H Q ∨ (∃ (c : Nat) (z : Str), x = .str ⟨#[c]⟩ ∧ y = .str z ∧ Q (.bl (!decide (c ∈ z.cps.toList))) H)
theorem op_notInD : OpR X (compareOp .NotIn) (rNotInD X.K) := op_notIn_seq.or op_notIn_sign
theorem dIn_cases {x y d : D} (e : dIn x y = some d) : (∃ ys, (y = .lst ys ∨ y = .tup ys) ∧ flatD x = true ∧ ys.all flatD = true ∧ d = .bl (ys.any fun y => D.eqv y x)) ∨ ∃ c s, x = .str [c] ∧ y = .str s ∧ d = .bl (s.contains c) := by
  cases y with
  | lst ys =>
    have e' : (if (flatD x && ys.all flatD) = true then some (D.bl (ys.any fun y => D.eqv y x)) else none) = some d := by cases x <;> exact e
    obtain ⟨h, e⟩ := ite_some e'
    rw [Bool.and_eq_true] at h
    exact .inl ⟨ys, .inl rfl, h.1, h.2, e.symm⟩
  | tup ys =>
    have e' : (if (flatD x && ys.all flatD) = true then some (D.bl (ys.any fun y => D.eqv y x)) else none) = some d := by cases x <;> exact e
    obtain ⟨h, e⟩ := ite_some e'
    rw [Bool.and_eq_true] at h
    exact .inl ⟨ys, .inr rfl, h.1, h.2, e.symm⟩
  | str s =>
    cases x with
    | str t =>
      match t, e with
      | [c], e => cases e; exact .inr ⟨c, s, rfl, rfl, rfl⟩
      | [], e => cases e
      | _ :: _ :: _, e => cases e
    | _ => cases e
  | _ => cases x <;> cases e
theorem ds_in : Op2 X dIn (rInD X.K) := by
  intro G ι m H v u x y d Q g rx ry e fin
  rcases dIn_cases e with ⟨ys, hy, fx, fy, rfl⟩ | ⟨c, s, rfl, rfl, rfl⟩
  · refine .inl ?_
    have q := rx.sc fx
    rcases hy with rfl | rfl
    · obtain ⟨a, vs, rfl, h, r⟩ := ry
      refine ⟨a, vs, rfl, .inl h, q.flat fx, r.flat fy, ?_⟩
      show Q (.bl (if false = true then _ else inV v vs)) H
      rw [if_neg (by decide), r.inV q fx fy]
      exact fin.here g (.bl _)
    · obtain ⟨a, vs, rfl, h, r⟩ := ry
      refine ⟨a, vs, rfl, .inr (g.sub.sqt h), q.flat fx, r.flat fy, ?_⟩
      show Q (.bl (if false = true then _ else inV v vs)) H
      rw [if_neg (by decide), r.inV q fx fy]
      exact fin.here g (.bl _)
  · cases (show v = .str (txt [c]) from rx)
    cases (show u = .str (txt s) from ry)
    refine .inr ⟨c.toNat, txt s, rfl, rfl, ?_⟩
    rw [mem_txt]
    exact fin.here g (.bl _)
theorem ds_notIn : Op2 X dNotIn (rNotInD X.K) := by
  intro G ι m H v u x y d Q g rx ry e fin
  unfold dNotIn at e
  cases h : dIn x y with
  | none => rw [h] at e; cases e
  | some d' =>
    rw [h] at e
    rcases dIn_cases h with ⟨ys, hy, fx, fy, rfl⟩ | ⟨c, s, rfl, rfl, rfl⟩
    · cases e
      refine .inl ?_
      have q := rx.sc fx
      rcases hy with rfl | rfl
      · obtain ⟨a, vs, rfl, h, r⟩ := ry
        refine ⟨a, vs, rfl, .inl h, q.flat fx, r.flat fy, ?_⟩
        show Q (.bl (if true = true then !inV v vs else _)) H
        rw [if_pos rfl, r.inV q fx fy]
        exact fin.here g (.bl _)
      · obtain ⟨a, vs, rfl, h, r⟩ := ry
        refine ⟨a, vs, rfl, .inr (g.sub.sqt h), q.flat fx, r.flat fy, ?_⟩
        show Q (.bl (if true = true then !inV v vs else _)) H
        rw [if_pos rfl, r.inV q fx fy]
        exact fin.here g (.bl _)
    · cases e
      cases (show v = .str (txt [c]) from rx)
      cases (show u = .str (txt s) from ry)
      refine .inr ⟨c.toNat, txt s, rfl, rfl, ?_⟩
      rw [mem_txt]
      exact fin.here g (.bl _)
end
end DI
namespace DI
open PySem PySem.Spec PyProof.Rows L2
section
variable {X : Cx} {W : XK} {a b c e : Expr} {fa fb fc f : SE} {pos p : Pos} {G H : Hp} {ι : Io} {ρ : Env} {m : Mem} {σ : L2.St}

/-! ### general steps -/
theorem postG_bind {α β γ : Type} {R : Hp → Io → β → α → Prop} {r : Res α} {k : α → Mem → Res γ} {δ : Type} {R' : Hp → Io → δ → γ → Prop} {Q : δ → Hp → Prop} (p : PostG X R' W G ι H (r.bind k) Q) :
    PostG X R W G ι H r fun v H' => ∃ G' ι' m' x, Ext G ι H G' ι' H' ∧ GR X.kx G' ι' m' H' ∧ R G' ι' v x ∧ r = .ok x m' ∧ PostG X R' W G' ι' H' (k x m') Q := by
  cases r with
  | ok x m1 => exact fun v G' ι' H' e g rv => ⟨G', ι', m1, x, e, g, rv, rfl, by
      revert p
      show PostG X R' W G ι H (k x m1) Q → _
      intro p
      cases hk : k x m1 with
      | ok y m2 => rw [hk] at p; exact fun v G' ι' H' x => p v G' ι' H' (e.trans x)
      | ex y m2 => rw [hk] at p; exact fun c dx G' ι' H' x => p c dx G' ι' H' (e.trans x)
      | no => rw [hk] at p; exact p⟩
  | ex e m1 => exact p
  | no => exact p
theorem postE_G {r : Res PV} {Q : VK} : PostE X W G ι H r Q ↔ PostG X (fun G ι => RepV X.kx G ι) W G ι H r Q := by
  cases r <;> exact Iff.rfl
theorem PostG.ext {α β : Type} {R : Hp → Io → β → α → Prop} {G1 H1 : Hp} {ι1 : Io} {r : Res α} {Q : β → Hp → Prop} (e : Ext G ι H G1 ι1 H1) (h : PostG X R W G ι H r Q) : PostG X R W G1 ι1 H1 r Q := by
  cases r with
  | ok d m => exact fun v G' ι' H' x => h v G' ι' H' (e.trans x)
  | ex d m => exact fun c dx G' ι' H' x => h c dx G' ι' H' (e.trans x)
  | no => exact h
/-- a sub-expression first -/
theorem step_e {γ δ : Type} {R' : Hp → Io → δ → γ → Prop} {Q : δ → Hp → Prop} {k : PV → Mem → Res γ} (g : GR X.kx G ι m H) (ev : EnvR X.kx G ι ρ σ) (p : PostG X R' W G ι H ((f ρ m).bind k) Q) :
    tE X W f σ H fun v H' => ∃ G' ι' m' x, Ext G ι H G' ι' H' ∧ GR X.kx G' ι' m' H' ∧ EnvR X.kx G' ι' ρ σ ∧ RepV X.kx G' ι' v x ∧ f ρ m = .ok x m' ∧ PostG X R' W G' ι' H' (k x m') Q := by
  refine ⟨G, ι, ρ, m, g, ev, ?_⟩
  rw [postE_G]
  have q := postG_bind (R := fun G ι => RepV X.kx G ι) p
  cases hr : f ρ m with
  | no => rw [hr] at q; exact q
  | ex e m1 => rw [hr] at q; exact q
  | ok x m1 =>
    rw [hr] at q
    intro v G' ι' H' e g r
    obtain ⟨G2, ι2, m2, y, e2, g2, r2, he, p2⟩ := q v G' ι' H' e g r
    exact ⟨G2, ι2, m2, y, e2, g2, ev.ext e2, r2, he, p2⟩
theorem step_a {γ δ : Type} {R' : Hp → Io → δ → γ → Prop} {Q : δ → Hp → Prop} {fs : Env → Mem → Res (List PV)} {k : List PV → Mem → Res γ} (g : GR X.kx G ι m H) (ev : EnvR X.kx G ι ρ σ) (p : PostG X R' W G ι H ((fs ρ m).bind k) Q) :
    tA X W fs σ H fun v H' => ∃ G' ι' m' x, Ext G ι H G' ι' H' ∧ GR X.kx G' ι' m' H' ∧ EnvR X.kx G' ι' ρ σ ∧ Paired (RepV X.kx G' ι') v x ∧ fs ρ m = .ok x m' ∧ PostG X R' W G' ι' H' (k x m') Q := by
  refine ⟨G, ι, ρ, m, g, ev, ?_⟩
  have q := postG_bind (R := fun G ι => Paired (RepV X.kx G ι)) p
  cases hr : fs ρ m with
  | no => rw [hr] at q; exact q
  | ex e m1 => rw [hr] at q; exact q
  | ok x m1 =>
    rw [hr] at q
    intro v G' ι' H' e g r
    obtain ⟨G2, ι2, m2, y, e2, g2, r2, he, p2⟩ := q v G' ι' H' e g r
    exact ⟨G2, ι2, m2, y, e2, g2, ev.ext e2, r2, he, p2⟩
theorem tA_mono {fs : Env → Mem → Res (List PV)} {Q Q' : List V → Hp → Prop} (h : tA X W fs σ H Q) (q : ∀ v H', Q v H' → Q' v H') : tA X W fs σ H Q' := by
  obtain ⟨G, ι, ρ, m, g, ev, p⟩ := h
  refine ⟨G, ι, ρ, m, g, ev, ?_⟩
  cases hr : fs ρ m with
  | no => rw [hr] at p; exact p
  | ex e m1 => rw [hr] at p; exact p
  | ok x m1 => rw [hr] at p; exact fun v G' ι' H' e g r => q _ _ (p v G' ι' H' e g r)
theorem tTe_mono {f : SE} {Q Q' : Bool → Hp → Prop} (h : tTe X W f σ H Q) (q : ∀ v H', Q v H' → Q' v H') : tTe X W f σ H Q' := by
  obtain ⟨G, ι, ρ, m, g, ev, hb, p⟩ := h
  refine ⟨G, ι, ρ, m, g, ev, hb, ?_⟩
  cases hr : f ρ m with
  | no => rw [hr] at p; exact p
  | ex e m1 => rw [hr] at p; exact p
  | ok x m1 => rw [hr] at p; exact fun v G' ι' H' e g r => q _ _ (p v G' ι' H' e g r)
/-- a test first -/
theorem step_t {γ δ : Type} {R' : Hp → Io → δ → γ → Prop} {Q : δ → Hp → Prop} {k : Bool → Mem → Res γ} (g : GR X.kx G ι m H) (ev : EnvR X.kx G ι ρ σ) (p : PostG X R' W G ι H ((f ρ m).bind (tst k)) Q) :
    tTe X W f σ H fun b H' => ∃ G' ι' m', Ext G ι H G' ι' H' ∧ GR X.kx G' ι' m' H' ∧ EnvR X.kx G' ι' ρ σ ∧ PostG X R' W G' ι' H' (k b m') Q := by
  refine ⟨G, ι, ρ, m, g, ev, fun x m' hx => ?_, ?_⟩
  · rw [hx] at p
    match x, p with
    | .d (.bl b), _ => exact ⟨b, rfl⟩
    | .d .non, p => exact p.elim
    | .d (.int _), p => exact p.elim
    | .d (.str _), p => exact p.elim
    | .d (.tup _), p => exact p.elim
    | .d (.dct _ _), p => exact p.elim
    | .d (.ins _ _ _), p => exact p.elim
    | .d (.lst _), p => exact p.elim
    | .obj _, p => exact p.elim
  · have q := postG_bind (R := fun _ _ => isB) p
    cases hr : f ρ m with
    | no => rw [hr] at q; exact q
    | ex e m1 => rw [hr] at q; exact q
    | ok x m1 =>
      rw [hr] at q
      intro v G' ι' H' e g r
      obtain ⟨G2, ι2, m2, y, e2, g2, r2, he, p2⟩ := q v G' ι' H' e g r
      cases (show y = .d (.bl v) from r2)
      exact ⟨G2, ι2, m2, e2, g2, ev.ext e2, p2⟩

/-! ### names, constants -/
theorem se_var (i : Nat) {x : Str} (hN : X.N[i]? = some x := by rfl) (hv : Vis X.env.scope x := by first | exact Or.inl rfl | exact Or.inr (Or.inl rfl) | exact Or.inr (Or.inr rfl)) (hd : (x == ("__debug__" : Str)) = false := by decide +kernel)
    (hcd : (x == ("__classdict__" : Str)) = false := by decide +kernel) : SEx X W (.Name x pos) (eV i) := by
  refine ⟨pe_weak (pe_var hN hv hd hcd) fun σ H Q ⟨G, ι, ρ, m, g, ev, q⟩ => ?_⟩
  unfold eV at q
  cases h : ρ[i]? with
  | none => rw [h] at q; exact q.elim
  | some o =>
    cases o with
    | none => rw [h] at q; exact q.elim
    | some x =>
      rw [h] at q
      obtain ⟨v, h1, h2⟩ := ev.2 i x h
      exact ⟨v, h1, q v G ι H (Ext.refl ..) g h2⟩
theorem se_c {v : V} {d : D} (h : PE X e (tC v)) (r : ∀ G, Rep X.kx G v d) : SEx X W e (eC d) :=
  ⟨pe_weak h fun σ H Q ⟨G, ι, ρ, m, g, ev, q⟩ => q v G ι H (Ext.refl ..) g (r G)⟩
theorem se_int {i : Int} {j} : SEx X W (.Constant (.int i) j pos) (eC (.int i)) := se_c pe_int fun _ => .int i
theorem se_bl {i : Bool} {j} : SEx X W (.Constant (.bool i) j pos) (eC (.bl i)) := se_c pe_bl fun _ => .bl i
theorem se_non {j} : SEx X W (.Constant .none j pos) (eC .non) := se_c pe_non fun _ => .non
theorem se_str {x : Str} {j} (s : List Char) (h : x = txt s := by decide +kernel) : SEx X W (.Constant (.str x) j pos) (eC (.str s)) := by
  subst h
  exact se_c pe_str fun _ => .str s
/-- a module's constant -/
theorem se_glob {x : Str} {v : V} {u : Value} {d : D} (hm : X.mg x = some u) (r : RelV v u) (q : ∀ G, Rep X.kx G v d) (hg : Gl X x := by rfl) (hd : (x == ("__debug__" : Str)) = false := by decide +kernel) : SEx X W (.Name x pos) (eC d) :=
  se_c (pe_glob hg hm r hd) q

/-! ### operators -/
theorem se_bin {op : Operator} {f : D → D → Option D} {r : R2} (ho : OpR X (binaryOp op) r) (hf : Op2 X f r) (ha : SEx X W a fa) (hb : SEx X W b fb) : SEx X W (.BinOp a op b pos) (e2 f fa fb) := se_e2 ho hf ha hb
theorem pc_opR {op : CmpOp} {r : R2} {ta tb : TE} (ho : OpR X (compareOp op) r) (ha : PE X a ta) (hb : PE X b tb) : PC X op a b (tOp r ta tb) :=
  ⟨fun pins s σ H Q I h => binT ha hb I h fun v u s2 x y H2 I2 rx ry q => ho pins s2 σ H2 x y v u Q I2 rx ry q⟩
/-- a comparison -/
structure SCm (X : Cx) (W : XK) (op : CmpOp) (a b : Expr) (f : SE) : Prop where
  pc : PC X op a b (tE X W f)
theorem pc_weak {op : CmpOp} {t t' : TE} (h : PC X op a b t) (w : ∀ σ H Q, t' σ H Q → t σ H Q) : PC X op a b t' := ⟨fun pins s σ H Q I q => h.run pins s σ H Q I (w _ _ _ q)⟩
theorem tE_op2 {f : D → D → Option D} {r : R2} (hf : Op2 X f r) {Q : VK} (h : tE X W (e2 f fa fb) σ H Q) : tOp r (tE X W fa) (tE X W fb) σ H Q := by
  obtain ⟨G, ι, ρ, m, g, ev, p⟩ := h
  rw [postE_G] at p
  refine tE_mono (step_e g ev p) fun v H1 ⟨G1, ι1, m1, x, x1, g1, ev1, r1, _, p1⟩ => ?_
  refine tE_mono (step_e g1 ev1 p1) fun u H2 ⟨G2, ι2, m2, y, x2, g2, ev2, r2, _, p2⟩ => ?_
  rw [← postE_G] at p2
  obtain ⟨d, e, fin⟩ := post_ofO (H := H2) p2
  cases hx : vw m2 x with
  | none => rw [hx] at e; cases e
  | some dx =>
    cases hy : vw m2 y with
    | none => rw [hx, hy] at e; cases e
    | some dy =>
      rw [hx, hy] at e
      exact hf g2 ((r1.ext x2).view g2 hx) (r2.view g2 hy) e fin
theorem sc_op {op : CmpOp} {f : D → D → Option D} {r : R2} (ho : OpR X (compareOp op) r) (hf : Op2 X f r) (ha : SEx X W a fa) (hb : SEx X W b fb) : SCm X W op a b (e2 f fa fb) :=
  ⟨pc_weak (pc_opR ho ha.pe hb.pe) fun σ H Q h => tE_op2 hf h⟩
/-- one place -/
theorem tE_op1 {f : D → Option D} {r : V → Hp → VK → Prop} (hf : Op1 X f r) {Q : VK} (h : tE X W (e1 f fa) σ H Q) : tE X W fa σ H fun x H1 => r x H1 Q := by
  obtain ⟨G, ι, ρ, m, g, ev, p⟩ := h
  rw [postE_G] at p
  refine tE_mono (step_e g ev p) fun v H1 ⟨G1, ι1, m1, x, x1, g1, ev1, r1, _, p1⟩ => ?_
  rw [← postE_G] at p1
  obtain ⟨d, e, fin⟩ := post_ofO (H := H1) p1
  cases hx : vw m1 x with
  | none => rw [hx] at e; cases e
  | some dx =>
    rw [hx] at e
    exact hf g1 (r1.view g1 hx) e fin
theorem se_un {op : UnaryOp} {f : D → Option D} {r : V → Hp → VK → Prop} (ho : UnR X (unaryOp op) r) (hf : Op1 X f r) (ha : SEx X W a fa) : SEx X W (.UnaryOp op a pos) (e1 f fa) :=
  ⟨pe_weak (pe_un ho ha.pe) fun σ H Q h => tE_op1 hf h⟩
theorem sc_isN {j pos'} (ha : SEx X W a fa) : SCm X W .Is a (.Constant .none j pos') (e1 dIsN fa) := ⟨pc_weak (pc_isN ha.pe) fun σ H Q h => tE_op1 ds_isN h⟩
theorem sc_notN {j pos'} (ha : SEx X W a fa) : SCm X W .IsNot a (.Constant .none j pos') (e1 dNotN fa) := ⟨pc_weak (pc_notN ha.pe) fun σ H Q h => tE_op1 ds_notN h⟩
theorem se_cmp {op : CmpOp} (h : SCm X W op a b f) (h1 : behindInMarks op b = false := by first | exact nobehind _ (by decide) (by decide) | rfl) : SEx X W (.Compare a [op] [b] pos) f := ⟨pe_cmp h.pc h1⟩
/-- a bool as a test -/
theorem tTe_tE {Q : Bool → Hp → Prop} (h : tTe X W f σ H Q) : tE X W f σ H fun x H' => ∃ k, x = .bl k ∧ Q k H' := by
  obtain ⟨G, ι, ρ, m, g, ev, hb, p⟩ := h
  refine ⟨G, ι, ρ, m, g, ev, ?_⟩
  cases hr : f ρ m with
  | no => rw [hr] at p; exact p
  | ex e m1 => rw [hr] at p; exact p
  | ok x m1 =>
    rw [hr] at p
    obtain ⟨b, rfl⟩ := hb x m1 hr
    intro v G' ι' H' e g r
    cases r
    exact ⟨b, rfl, p b G' ι' H' e g rfl⟩
theorem st_val (h : SEx X W e f) (he : ∀ whole, isTrue e X.env whole = (do let v ← whole; standAt e.pos; holding [v] (truthy v)) := by intro _; rfl) : STe X W e f :=
  ⟨pt_weak (pt_val h.pe he) fun σ H Q h => tTe_tE h⟩
theorem st_cmp {op : CmpOp} (h : SCm X W op a b f) (h1 : behindInMarks op b = false := by first | exact nobehind _ (by decide) (by decide) | rfl) : STe X W (.Compare a [op] [b] pos) f :=
  ⟨pt_weak (pt_cmp h.pc h1) fun σ H Q h => tTe_tE h⟩
/-- a chain of two comparisons -/
theorem tE_chain {f g : D → D → Option D} {r r' : R2} (hf : Op2 X f r) (hg : Op2 X g r') {Q : VK} (h : tE X W (eCh f g fa fb fc) σ H Q) : tChain r r' (tE X W fa) (tE X W fb) (tE X W fc) σ H Q := by
  obtain ⟨G, ι, ρ, m, gr, ev, p⟩ := h
  rw [postE_G] at p
  refine tE_mono (step_e gr ev p) fun v H1 ⟨G1, ι1, m1, x, x1, g1, ev1, r1, _, p1⟩ => ?_
  refine tE_mono (step_e g1 ev1 p1) fun u H2 ⟨G2, ι2, m2, y, x2, g2, ev2, r2, _, p2⟩ => ?_
  cases hx : vw m2 x with
  | none => rw [hx] at p2; exact p2.elim
  | some dx =>
    cases hy : vw m2 y with
    | none => rw [hx, hy] at p2; exact p2.elim
    | some dy =>
      rw [hx, hy] at p2
      cases hd : f dx dy with
      | none => rw [show ((some dx).bind fun dx => (some dy).bind fun dy => f dx dy) = f dx dy from rfl, hd] at p2; exact p2.elim
      | some d =>
        rw [show ((some dx).bind fun dx => (some dy).bind fun dy => f dx dy) = f dx dy from rfl, hd] at p2
        refine hf g2 ((r1.ext x2).view g2 hx) (r2.view g2 hy) hd fun z G3 H3 x3 g3 r3 => ?_
        match d, p2, r3 with
        | .bl t, p2, r3 =>
          cases r3
          refine ⟨t, rfl, ?_⟩
          have p3 : PostG X (fun G ι => RepV X.kx G ι) W G2 ι2 H2 (if t = true then (fc ρ m2).bind fun z m => ofO ((vw m y).bind fun dy => (vw m z).bind fun dz => g dy dz) m else .ok (.d (.bl false)) m2) Q := p2
          cases t with
          | false =>
            rw [if_neg (by decide)] at p3 ⊢
            exact p3 _ G3 ι2 H3 x3 g3 (.bl false)
          | true =>
            rw [if_pos rfl] at p3 ⊢
            refine tE_mono (step_e g3 (ev2.ext x3) (p3.ext x3)) fun w H4 ⟨G4, ι4, m4, z, x4, g4, ev4, r4, _, p4⟩ => ?_
            rw [← postE_G] at p4
            obtain ⟨d, e, fin⟩ := post_ofO (H := H4) p4
            cases hy2 : vw m4 y with
            | none => rw [hy2] at e; cases e
            | some dy2 =>
              cases hz : vw m4 z with
              | none => rw [hy2, hz] at e; cases e
              | some dz =>
                rw [hy2, hz] at e
                exact hg g4 (((r2.ext x3).ext x4).view g4 hy2) (r4.view g4 hz) e fin
theorem se_chain {op op' : CmpOp} {f g : D → D → Option D} {r r' : R2} (ho : OpR X (compareOp op) r) (hf : Op2 X f r) (ho' : OpR X (compareOp op') r') (hg : Op2 X g r') (ha : SEx X W a fa) (hb : SEx X W b fb) (hc : SEx X W c fc)
    (hm : lastMarks [op, op'] [b, c] = false := by with_unfolding_all rfl) : SEx X W (.Compare a [op, op'] [b, c] pos) (eCh f g fa fb fc) := ⟨pe_weak (pe_chain ho ho' ha.pe hb.pe hc.pe hm) fun σ H Q h => tE_chain hf hg h⟩
theorem st_chain {op op' : CmpOp} {f g : D → D → Option D} {r r' : R2} (ho : OpR X (compareOp op) r) (hf : Op2 X f r) (ho' : OpR X (compareOp op') r') (hg : Op2 X g r') (ha : SEx X W a fa) (hb : SEx X W b fb) (hc : SEx X W c fc)
    (hm : lastMarks [op, op'] [b, c] = false := by with_unfolding_all rfl) : STe X W (.Compare a [op, op'] [b, c] pos) (eCh f g fa fb fc) := ⟨pt_weak (pt_chain ho ho' ha.pe hb.pe hc.pe hm) fun σ H Q h => tE_chain hf hg (tTe_tE h)⟩
end
end DI
namespace DI
open PySem PySem.Spec PyProof.Rows L2
section
variable {X : Cx} {W : XK} {a b c e : Expr} {es rest : List Expr} {fa fb fc f : SE} {fs : List SE} {pos p : Pos} {G H : Hp} {ι : Io} {ρ : Env} {m : Mem} {σ : L2.St}
/-! ### and, or, not, if -/
theorem se_one {op} (h : SEx X W a fa) : SEx X W (.BoolOp op [a] pos) fa := ⟨pe_one h.pe⟩
theorem se_and (ha : SEx X W a fa) (hb : SEx X W (.BoolOp .And (b :: rest) pos) fb) : SEx X W (.BoolOp .And (a :: b :: rest) pos) (eAnd fa fb) := by
  refine ⟨pe_weak (pe_and ha.pe hb.pe) fun σ H Q ⟨G, ι, ρ, m, g, ev, p⟩ => ?_⟩
  rw [postE_G] at p
  have q := tTe_tE (step_t g ev p)
  refine tE_mono q fun x H1 ⟨k, e, G1, ι1, m1, x1, g1, ev1, p1⟩ => ⟨k, e, ?_⟩
  cases k with
  | true => rw [if_pos rfl] at p1 ⊢; exact ⟨G1, ι1, ρ, m1, g1, ev1, postE_G.mpr p1⟩
  | false => rw [if_neg (by decide)] at p1 ⊢; exact p1 _ G1 ι1 H1 (Ext.refl ..) g1 (.bl false)
theorem se_or (ha : SEx X W a fa) (hb : SEx X W (.BoolOp .Or (b :: rest) pos) fb) : SEx X W (.BoolOp .Or (a :: b :: rest) pos) (eOr fa fb) := by
  refine ⟨pe_weak (pe_or ha.pe hb.pe) fun σ H Q ⟨G, ι, ρ, m, g, ev, p⟩ => ?_⟩
  rw [postE_G] at p
  have q := tTe_tE (step_t g ev p)
  refine tE_mono q fun x H1 ⟨k, e, G1, ι1, m1, x1, g1, ev1, p1⟩ => ⟨k, e, ?_⟩
  cases k with
  | false => rw [if_neg (by decide)] at p1 ⊢; exact ⟨G1, ι1, ρ, m1, g1, ev1, postE_G.mpr p1⟩
  | true => rw [if_pos rfl] at p1 ⊢; exact p1 _ G1 ι1 H1 (Ext.refl ..) g1 (.bl true)
theorem se_not (ha : SEx X W a fa) : SEx X W (.UnaryOp .Not a pos) (eNot fa) := by
  refine ⟨pe_weak (pe_not ha.pe) fun σ H Q ⟨G, ι, ρ, m, g, ev, p⟩ => ?_⟩
  rw [postE_G] at p
  have q := tTe_tE (step_t g ev p)
  exact tE_mono q fun x H1 ⟨k, e, G1, ι1, m1, x1, g1, ev1, p1⟩ => ⟨k, e, p1 _ G1 ι1 H1 (Ext.refl ..) g1 (.bl _)⟩
theorem se_if (hc : STe X W c fc) (ha : SEx X W a fa) (hb : SEx X W b fb) : SEx X W (.IfExp c a b pos) (eIf fc fa fb) := by
  refine ⟨pe_weak (pe_ifExp hc.pt ha.pe hb.pe) fun σ H Q ⟨G, ι, ρ, m, g, ev, p⟩ => ?_⟩
  rw [postE_G] at p
  refine tTe_mono (step_t g ev p) fun k H1 ⟨G1, ι1, m1, x1, g1, ev1, p1⟩ => ?_
  cases k with
  | true => rw [if_pos rfl] at p1 ⊢; exact ⟨G1, ι1, ρ, m1, g1, ev1, postE_G.mpr p1⟩
  | false => rw [if_neg (by decide)] at p1 ⊢; exact ⟨G1, ι1, ρ, m1, g1, ev1, postE_G.mpr p1⟩
/-- as tests -/
structure SW (X : Cx) (W : XK) (e : Expr) (f : SE) : Prop where
  pw : PW X e (tTe X W f)
theorem pw_weak {t t' : TT} (h : PW X e t) (w : ∀ σ H Q, t' σ H Q → t σ H Q) : PW X e t' := ⟨fun wh pins s σ H Q I q => h.run wh pins s σ H Q I (w _ _ _ q)⟩
theorem SW.st (h : SW X W e f) : STe X W e f := ⟨h.pw.pt⟩
theorem sw_and1 (h : STe X W a fa) : SW X W (.BoolOp .And [a] pos) fa := ⟨pw_and1 h.pt⟩
theorem sw_or1 (h : STe X W a fa) : SW X W (.BoolOp .Or [a] pos) fa := ⟨pw_or1 h.pt⟩
/-- a test's own end is a bool -/
theorem tTe_of {Q : Bool → Hp → Prop} (g : GR X.kx G ι m H) (ev : EnvR X.kx G ι ρ σ) (hb : ∀ x m', f ρ m = .ok x m' → ∃ b, x = .d (.bl b)) (p : PostG X (fun _ _ => isB) W G ι H (f ρ m) Q) : tTe X W f σ H Q := ⟨G, ι, ρ, m, g, ev, hb, p⟩
theorem sw_and (ha : STe X W a fa) (hb : SW X W (.BoolOp .And (b :: rest) pos) fb) : SW X W (.BoolOp .And (a :: b :: rest) pos) (eAnd fa fb) := by
  refine ⟨pw_weak (pw_and ha.pt hb.pw) fun σ H Q ⟨G, ι, ρ, m, g, ev, hB, p⟩ => ?_⟩
  have p' : PostG X (fun _ _ => isB) W G ι H ((fa ρ m).bind (tst fun c m1 => if c = true then fb ρ m1 else .ok (.d (.bl false)) m1)) Q := p
  have hB' : ∀ x m', ((fa ρ m).bind (tst fun c m1 => if c = true then fb ρ m1 else .ok (.d (.bl false)) m1)) = .ok x m' → ∃ b, x = .d (.bl b) := hB
  refine ⟨G, ι, ρ, m, g, ev, ?_, ?_⟩
  · obtain ⟨_, _, _, _, _, _, h1, _⟩ := step_t (k := fun c m1 => if c = true then fb ρ m1 else .ok (.d (.bl false)) m1) g ev p'
    intro x m' hx
    rw [hx] at p'
    match x, p' with
    | .d (.bl b), _ => exact ⟨b, rfl⟩
    | .d .non, p => exact p.elim
    | .d (.int _), p => exact p.elim
    | .d (.str _), p => exact p.elim
    | .d (.tup _), p => exact p.elim
    | .d (.dct _ _), p => exact p.elim
    | .d (.ins _ _ _), p => exact p.elim
    | .d (.lst _), p => exact p.elim
    | .obj _, p => exact p.elim
  · cases hr : fa ρ m with
    | no => rw [hr] at p'; exact p'
    | ex e m1 => rw [hr] at p'; exact p'
    | ok x m1 =>
      rw [hr] at p' hB'
      intro k G1 ι1 H1 x1 g1 r1
      cases (show x = .d (.bl k) from r1)
      cases k with
      | true => rw [if_pos rfl]; exact ⟨G1, ι1, ρ, m1, g1, ev.ext x1, hB', p'.ext x1⟩
      | false => rw [if_neg (by decide)]; exact p' _ G1 ι1 H1 x1 g1 rfl
theorem sw_or (ha : STe X W a fa) (hb : SW X W (.BoolOp .Or (b :: rest) pos) fb) : SW X W (.BoolOp .Or (a :: b :: rest) pos) (eOr fa fb) := by
  refine ⟨pw_weak (pw_or ha.pt hb.pw) fun σ H Q ⟨G, ι, ρ, m, g, ev, hB, p⟩ => ?_⟩
  have p' : PostG X (fun _ _ => isB) W G ι H ((fa ρ m).bind (tst fun c m1 => if c = true then .ok (.d (.bl true)) m1 else fb ρ m1)) Q := p
  have hB' : ∀ x m', ((fa ρ m).bind (tst fun c m1 => if c = true then .ok (.d (.bl true)) m1 else fb ρ m1)) = .ok x m' → ∃ b, x = .d (.bl b) := hB
  refine ⟨G, ι, ρ, m, g, ev, ?_, ?_⟩
  · intro x m' hx
    rw [hx] at p'
    match x, p' with
    | .d (.bl b), _ => exact ⟨b, rfl⟩
    | .d .non, p => exact p.elim
    | .d (.int _), p => exact p.elim
    | .d (.str _), p => exact p.elim
    | .d (.tup _), p => exact p.elim
    | .d (.dct _ _), p => exact p.elim
    | .d (.ins _ _ _), p => exact p.elim
    | .d (.lst _), p => exact p.elim
    | .obj _, p => exact p.elim
  · cases hr : fa ρ m with
    | no => rw [hr] at p'; exact p'
    | ex e m1 => rw [hr] at p'; exact p'
    | ok x m1 =>
      rw [hr] at p' hB'
      intro k G1 ι1 H1 x1 g1 r1
      cases (show x = .d (.bl k) from r1)
      cases k with
      | true => rw [if_pos rfl]; exact p' _ G1 ι1 H1 x1 g1 rfl
      | false => rw [if_neg (by decide)]; exact ⟨G1, ι1, ρ, m1, g1, ev.ext x1, hB', p'.ext x1⟩
theorem st_not (ha : STe X W a fa) : STe X W (.UnaryOp .Not a pos) (eNot fa) := by
  refine ⟨pt_weak (pt_not ha.pt) fun σ H Q ⟨G, ι, ρ, m, g, ev, hB, p⟩ => ?_⟩
  have p' : PostG X (fun _ _ => isB) W G ι H ((fa ρ m).bind (tst fun c m1 => .ok (.d (.bl (!c))) m1)) Q := p
  exact tTe_mono (step_t g ev p') fun k H1 ⟨G1, ι1, m1, x1, g1, ev1, p1⟩ => p1 _ G1 ι1 H1 (Ext.refl ..) g1 rfl

/-! ### arguments, calls -/
theorem sa_nil : SAr X W [] [] := ⟨pa_weak pa_nil fun σ H Q ⟨G, ι, ρ, m, g, ev, p⟩ => p [] G ι H (Ext.refl ..) g .nil⟩
theorem sa_cons (ha : SEx X W a fa) (hr : SAr X W es fs) (hs : starEach (a :: es) X.env = (false, eval a X.env) :: starEach es X.env := by rfl) : SAr X W (a :: es) (fa :: fs) := by
  refine ⟨pa_weak (pa_cons ha.pe hr.pa hs) fun σ H Q ⟨G, ι, ρ, m, g, ev, p⟩ => ?_⟩
  have p' : PostG X (fun G ι => Paired (RepV X.kx G ι)) W G ι H ((fa ρ m).bind fun x m => (eArgs fs ρ m).bind fun xs m => .ok (x :: xs) m) Q := p
  refine tE_mono (step_e g ev p') fun v H1 ⟨G1, ι1, m1, x, x1, g1, ev1, r1, _, p1⟩ => ?_
  refine tA_mono (step_a g1 ev1 p1) fun vs H2 ⟨G2, ι2, m2, xs, x2, g2, ev2, r2, _, p2⟩ => ?_
  exact p2 _ G2 ι2 H2 (Ext.refl ..) g2 (.cons (r1.ext x2) r2)

/-- what a function's call is worth: n arguments -/
def spF (K : Kx) (n : Nat) (F : Fn) : Sp := fun vs H Q E => ∃ G ι m ds, ds.length = n ∧ GR K G ι m H ∧ Paired (RepV K G ι) vs ds ∧ PostK K E G ι H (F ds m) Q
structure FnS (P : Program) (w : World) (K : Kx) (base : Heap) (k : Nat) (x : Str) (n : Nat) (F : Fn) : Prop where
  ex : ∃ f fd ps, K.mg x = some (.ref f) ∧ PySem.W.keepIn K.K (.ref f) = true ∧ Binds K.K fd ps [] ∧ FnOk P w K.K K.mg base (L2N.CX P w) k f fd ps (spF K n F)
theorem FnS.mono {P : Program} {w : World} {K : Kx} {base : Heap} {j k n : Nat} {x : Str} {F : Fn} (h : FnS P w K base j x n F) (hk : j ≤ k) : FnS P w K base k x n F := by
  obtain ⟨f, fd, ps, h1, h2, h3, h4⟩ := h.ex
  exact ⟨f, fd, ps, h1, h2, h3, h4.mono hk⟩
theorem paired_len {α β : Type} {R : α → β → Prop} {xs : List α} {ys : List β} (h : Paired R xs ys) : xs.length = ys.length := Paired.length h
/-- a wish that hangs on no slot -/
abbrev Tk (X : Cx) (W : XK) : Prop := L2N.Takes X (fun c d _ H => W c d H)
theorem se_call {x : Str} {k n : Nat} {F : Fn} (hF : FnS X.prog X.w X.kx X.base k x n F) (tk : Tk X W) (hr : Room k X.A) (ha : SAr X W (e :: es) fs) (hn : fs.length = n := by rfl) (hg : Gl X x := by rfl) (hdb : (x == ("__debug__" : Str)) = false := by decide +kernel)
    (he : starEach (e :: es) X.env = (false, eval e X.env) :: starEach es X.env := by rfl) (hpl : (backTo pos (starEach es X.env)).any (·.1) = false := by rfl) :
    SEx X W (.Call (.Name x p) (e :: es) [] pos) (eCall F fs) := by
  obtain ⟨f, fd, ps, h1, h2, h3, h4⟩ := hF.ex
  refine ⟨pe_weak (pe_call (E := W) h4 hr hg h1 h2 h3 .nil (L2N.passes_call tk fun _ _ _ _ h => h) ha.pa hdb he hpl) fun σ H Q ⟨G, ι, ρ, m, g, ev, p⟩ => ?_⟩
  rw [postE_G] at p
  have p' : PostG X (fun G ι => RepV X.kx G ι) W G ι H ((eArgs fs ρ m).bind fun xs m => F xs m) Q := p
  have len : ∀ (l : List SE) (ρ : Env) (m m' : Mem) (xs : List PV), eArgs l ρ m = .ok xs m' → xs.length = l.length := by
    intro l
    induction l with
    | nil => intro ρ m m' xs h; cases h; rfl
    | cons q r ih =>
      intro ρ m m' xs h
      unfold eArgs at h
      cases hq : q ρ m with
      | no => rw [hq] at h; cases h
      | ex _ _ => rw [hq] at h; cases h
      | ok x1 m1 =>
        rw [hq, Res.bind_ok] at h
        cases hr : eArgs r ρ m1 with
        | no => rw [hr] at h; cases h
        | ex _ _ => rw [hr] at h; cases h
        | ok x2 m2 =>
          rw [hr, Res.bind_ok] at h
          cases h
          simp [ih ρ m1 _ _ hr]
  refine tA_mono (step_a g ev p') fun vs H1 ⟨G1, ι1, m1, xs, x1, g1, ev1, r1, hx, p1⟩ => ?_
  show spF X.kx n F (vs ++ []) H1 Q W
  rw [List.append_nil]
  exact ⟨G1, ι1, m1, xs, by rw [← hn]; exact len fs ρ m _ xs hx, g1, r1, postE_G.mpr p1⟩

/-! ### displays -/
theorem datas_rep {xs : List PV} {ds : List D} {vs : List V} (h : datas m xs = some ds) (r : Paired (RepV X.kx G ι) vs xs) : RepAll X.kx G vs ds := by
  induction r generalizing ds with
  | nil => cases h; exact .nil
  | @cons v x vs xs r t ih =>
    cases x with
    | obj i => cases h
    | raw a => cases h
    | d x =>
      rw [datas_d] at h
      cases hd : datas m xs with
      | none => rw [hd] at h; cases h
      | some es =>
        rw [hd] at h
        cases h
        exact .cons r (ih hd)
theorem se_tup {k : Nat} (ha : SAr X W es fs) (hl : fs.length ≤ 1000 := by decide) : SEx X W (.Tuple es k pos) (eTup fs) := by
  refine ⟨pe_weak (pe_tup ha.pa) fun σ H Q ⟨G, ι, ρ, m, g, ev, p⟩ => ?_⟩
  rw [postE_G] at p
  have p' : PostG X (fun G ι => RepV X.kx G ι) W G ι H ((eArgs fs ρ m).bind fun xs m => match datas m xs with
    | some ds => .ok (.d (.tup ds)) m
    | none => .no) Q := p
  have len : ∀ (l : List SE) (ρ : Env) (m m' : Mem) (xs : List PV), eArgs l ρ m = .ok xs m' → xs.length = l.length := by
    intro l
    induction l with
    | nil => intro ρ m m' xs h; cases h; rfl
    | cons q r ih =>
      intro ρ m m' xs h
      unfold eArgs at h
      cases hq : q ρ m with
      | no => rw [hq] at h; cases h
      | ex _ _ => rw [hq] at h; cases h
      | ok x1 m1 =>
        rw [hq, Res.bind_ok] at h
        cases hr : eArgs r ρ m1 with
        | no => rw [hr] at h; cases h
        | ex _ _ => rw [hr] at h; cases h
        | ok x2 m2 =>
          rw [hr, Res.bind_ok] at h
          cases h
          simp [ih ρ m1 _ _ hr]
  refine tA_mono (step_a g ev p') fun vs H1 ⟨G1, ι1, m1, xs, x1, g1, ev1, r1, hx, p1⟩ => ?_
  cases hd : datas m1 xs with
  | none => rw [hd] at p1; exact p1.elim
  | some ds =>
    rw [hd] at p1
    refine ⟨?_, fun q hq => g1.layT hq (datas_rep hd r1) fun w G' H' e g r => p1 w G' ι1 H' e g r⟩
    have := paired_len r1
    have := len fs ρ m _ xs hx
    rw [sizeLine_eq]
    omega
/-- a new list -/
def tNE (X : Cx) (W : XK) (f : NE) : TE := fun σ H Q => ∃ G ι ρ m, GR X.kx G ι m H ∧ EnvR X.kx G ι ρ σ ∧ match f ρ m with
  | .ok xs m' => ∀ q vs G' ι' H', Ext G ι H G' ι' H' → GR X.kx G' ι' m' H' → H' q = none → RepAll X.kx G' vs xs → Q (.ref q) (upd H' q (.lst vs))
  | .ex e m' => ∀ c dx G' ι' H', Ext G ι H G' ι' H' → GR X.kx G' ι' m' H' → ExR X.kx G' H' e c dx → W c dx H'
  | .no => False
structure NEx (X : Cx) (W : XK) (e : Expr) (f : NE) : Prop where
  pe : PE X e (tNE X W f)
theorem NEx.fz {f : NE} (h : NEx X W e f) : SEx X W e (eFz f) := by
  refine ⟨pe_weak h.pe fun σ H Q ⟨G, ι, ρ, m, g, ev, p⟩ => ⟨G, ι, ρ, m, g, ev, ?_⟩⟩
  unfold eFz at p
  cases hr : f ρ m with
  | no => rw [hr] at p; exact p
  | ex e m1 => rw [hr] at p; exact p
  | ok xs m1 =>
    rw [hr] at p
    intro q vs G' ι' H' e g hq r
    exact g.layL hq r fun w G2 H2 e2 g2 r2 => p w G2 ι' H2 (e.trans e2) g2 r2
theorem GR.alloc {K : Kx} (g : GR K G ι m H) {q : Addr} (hq : H q = none) {vs : List V} {xs : List D} (r : RepAll K G vs xs) : GR K G (ι ++ [[q]]) (m ++ [.l1 xs]) (upd H q (.lst vs)) ∧ Ext G ι H G (ι ++ [[q]]) (upd H q (.lst vs)) := by
  obtain ⟨g1, g2⟩ := g.fresh hq
  refine ⟨⟨sub_updR g.sub g1, by simp [g.len], ?_, fun i l o hl ho => ?_⟩, Sub.refl G, ⟨_, rfl, fun a ha => (show a = q by simpa using ha) ▸ hq⟩, fun a u e _ => by rw [upd_ne (ne_of_none e hq)]; exact e, fun a e => ?_, fun a u e => .inl e⟩
  · rw [List.flatten_append, List.nodup_append]
    refine ⟨g.nd, by simp, fun x hx y hy e => ?_⟩
    have : y = q := by simpa using hy
    subst this; subst e
    exact g2 hx
  · by_cases hi : i < ι.length
    · rw [List.getElem?_append_left hi] at hl
      rw [List.getElem?_append_left (by rw [← g.len]; exact hi)] at ho
      refine (g.obj i l o hl ho).mono (Sub.refl G) fun a ha => ⟨id, ?_⟩
      rw [upd_ne]
      rintro rfl
      exact g2 (mem_io hl ha)
    · have hi' : i = ι.length := by
        have h1 := (List.getElem?_eq_some_iff.mp hl).1
        simp at h1
        omega
      subst hi'
      rw [List.getElem?_append_right (Nat.le_refl _)] at hl
      rw [g.len, List.getElem?_append_right (Nat.le_refl _)] at ho
      simp at hl ho
      subst hl ho
      exact ⟨q, vs, rfl, g1, upd_same, r⟩
  · by_cases h : a = q
    · subst h; exact hq
    · rw [upd_ne h] at e; exact e
theorem NEx.nw {f : NE} (h : NEx X W e f) : SEx X W e (eNw f) := by
  refine ⟨pe_weak h.pe fun σ H Q ⟨G, ι, ρ, m, g, ev, p⟩ => ⟨G, ι, ρ, m, g, ev, ?_⟩⟩
  unfold eNw at p
  cases hr : f ρ m with
  | no => rw [hr] at p; exact p
  | ex e m1 => rw [hr] at p; exact p
  | ok xs m1 =>
    rw [hr] at p
    intro q vs G' ι' H' e g hq r
    obtain ⟨g2, e2⟩ := g.alloc hq r
    refine p _ G' _ _ (e.trans e2) g2 ⟨q, [], ?_, rfl⟩
    rw [← g.len, List.getElem?_append_right (Nat.le_refl _)]
    simp
theorem ne_lst (ha : SAr X W es fs) (hl : fs.length ≤ 1000 := by decide) : NEx X W (.List es pos) (nLst fs) := by
  refine ⟨pe_weak (pe_lst ha.pa) fun σ H Q ⟨G, ι, ρ, m, g, ev, p⟩ => ⟨G, ι, ρ, m, g, ev, ?_⟩⟩
  have len : ∀ (l : List SE) (ρ : Env) (m m' : Mem) (xs : List PV), eArgs l ρ m = .ok xs m' → xs.length = l.length := by
    intro l
    induction l with
    | nil => intro ρ m m' xs h; cases h; rfl
    | cons q r ih =>
      intro ρ m m' xs h
      unfold eArgs at h
      cases hq : q ρ m with
      | no => rw [hq] at h; cases h
      | ex _ _ => rw [hq] at h; cases h
      | ok x1 m1 =>
        rw [hq, Res.bind_ok] at h
        cases hr : eArgs r ρ m1 with
        | no => rw [hr] at h; cases h
        | ex _ _ => rw [hr] at h; cases h
        | ok x2 m2 =>
          rw [hr, Res.bind_ok] at h
          cases h
          simp [ih ρ m1 _ _ hr]
  unfold nLst at p
  cases hr : eArgs fs ρ m with
  | no => rw [hr] at p; exact p
  | ex e m1 => rw [hr] at p; exact p
  | ok xs m1 =>
    rw [hr] at p
    intro vs G' ι' H' e g r
    have hlen : vs.length ≤ sizeLine := by
      have := paired_len r
      have := len fs ρ m _ xs hr
      rw [sizeLine_eq]
      omega
    rw [Res.bind_ok] at p
    cases hd : datas m1 xs with
    | none => rw [hd] at p; exact p.elim
    | some ds =>
      rw [hd] at p
      exact ⟨hlen, fun q hq => p q vs G' ι' H' e g hq (datas_rep hd r)⟩
end
end DI
namespace DI
open PySem PySem.Spec PyProof.Rows L2
section
variable {X : Cx} {W : XK} {a b c e : Expr} {es rest : List Expr} {fa fb fc f : SE} {fs : List SE} {pos p : Pos} {G H : Hp} {ι : Io} {ρ : Env} {m : Mem} {σ : L2.St}
/-! ### a place -/
theorem atD_get {α : Type} {xs : List α} {i : Int} {d : α} (h : atD xs i = some d) : ∃ j, ixN xs.length i = some j ∧ xs[j]? = some d := by
  unfold atD at h
  unfold ixN
  by_cases h0 : 0 ≤ i
  · rw [if_pos h0] at h ⊢
    have hlt := (List.getElem?_eq_some_iff.mp h).1
    rw [if_pos (by omega)]
    exact ⟨_, rfl, h⟩
  · rw [if_neg h0] at h ⊢
    by_cases h1 : -(xs.length : Int) ≤ i
    · rw [if_pos h1] at h ⊢
      exact ⟨_, rfl, h⟩
    · rw [if_neg h1] at h; cases h
theorem atI_of {vs : List V} {ds : List D} {K : Kx} (r : RepAll K G vs ds) {i : Int} {d : D} (h : atD ds i = some d) : ∃ v, atI vs i = some v ∧ Rep K G v d := by
  obtain ⟨j, h1, h2⟩ := atD_get h
  obtain ⟨v, h3, h4⟩ := r.get h2
  refine ⟨v, ?_, h4⟩
  unfold atI
  rw [r.length, h1]
  exact h3
theorem ds_ix : Op2 X dIx (rIx X.K) := by
  intro G ι m H v u x y d Q g rx ry e fin
  cases y with
  | int i =>
    cases (show u = .int i from ry)
    cases x with
    | lst xs =>
      obtain ⟨a, vs, rfl, h, r⟩ := rx
      obtain ⟨w, h1, h2⟩ := atI_of r (show atD xs i = some d from e)
      exact .inl ⟨a, vs, i, w, rfl, rfl, h, h1, fin.here g h2⟩
    | tup xs =>
      obtain ⟨a, vs, rfl, h, r⟩ := rx
      obtain ⟨w, h1, h2⟩ := atI_of r (show atD xs i = some d from e)
      exact .inr (.inl ⟨a, vs, i, w, rfl, rfl, g.sub.sqt h, h1, fin.here g h2⟩)
    | str s =>
      cases (show v = .str (txt s) from rx)
      obtain ⟨hl, e⟩ := (show s.length ≤ lineL ∧ (atD s i).map (fun c => D.str [c]) = some d from by
        have e' : (if s.length ≤ lineL then (atD s i).map fun c => D.str [c] else none) = some d := e
        split at e'
        · exact ⟨by assumption, e'⟩
        · cases e')
      cases hc : atD s i with
      | none => rw [hc] at e; cases e
      | some c =>
        rw [hc] at e
        cases e
        obtain ⟨j, h1, h2⟩ := atD_get hc
        refine .inr (.inr ⟨txt s, i, c.toNat, rfl, rfl, by rw [txt_length, ← lineL_eq]; exact hl, ?_, fin.here g (.str [c])⟩)
        unfold atI
        have e1 : (txt s).cps.toList = s.map Char.toNat := by simp [txt]
        rw [e1, List.length_map, h1]
        show (s.map Char.toNat)[j]? = _
        rw [List.getElem?_map, h2]
        rfl
    | _ => cases e
  | _ => cases x <;> cases e
theorem se_ix (ha : SEx X W a fa) (hb : SEx X W b fb) (hs : PlainIx b := by exact fun _ _ => rfl) : SEx X W (.Subscript a b pos) (e2 dIx fa fb) :=
  ⟨pe_weak (pe_ix ix_seq ha.pe hb.pe hs) fun σ H Q h => tE_op2 ds_ix h⟩
/-! ### slices -/
def tOE (X : Cx) (W : XK) (f : OE) : TO := fun σ H Q => ∃ G ι ρ m, GR X.kx G ι m H ∧ EnvR X.kx G ι ρ σ ∧ PostG X (fun _ _ (x : Option Int) y => x = y) W G ι H (f ρ m) Q
structure SOp (X : Cx) (W : XK) (e : Option Expr) (f : OE) : Prop where
  po : PO X e (tOE X W f)
theorem po_weak {e : Option Expr} {t t' : TO} (h : PO X e t) (w : ∀ σ H Q, t' σ H Q → t σ H Q) : PO X e t' := ⟨fun pins s σ H Q I q => h.run pins s σ H Q I (w _ _ _ q)⟩
theorem so_none : SOp X W none oN := ⟨po_weak po_none fun σ H Q ⟨G, ι, ρ, m, g, ev, p⟩ => p none G ι H (Ext.refl ..) g rfl⟩
theorem so_some (h : SEx X W a fa) : SOp X W (some a) (oS fa) := by
  refine ⟨po_weak (po_some h.pe) fun σ H Q ⟨G, ι, ρ, m, g, ev, p⟩ => ?_⟩
  have p' : PostG X (fun _ _ (x : Option Int) y => x = y) W G ι H ((fa ρ m).bind fun x m => match x with
    | .d (.int i) => .ok (some i) m
    | _ => .no) Q := p
  refine tE_mono (step_e g ev p') fun v H1 ⟨G1, ι1, m1, x, x1, g1, ev1, r1, _, p1⟩ => ?_
  match x, p1, r1 with
  | .d (.int i), p1, r1 => cases r1; exact ⟨i, rfl, p1 _ G1 ι1 H1 (Ext.refl ..) g1 rfl⟩
  | .d .non, p1, _ => exact p1.elim
  | .d (.bl _), p1, _ => exact p1.elim
  | .d (.str _), p1, _ => exact p1.elim
  | .d (.tup _), p1, _ => exact p1.elim
  | .d (.dct _ _), p1, _ => exact p1.elim
  | .d (.ins _ _ _), p1, _ => exact p1.elim
  | .d (.lst _), p1, _ => exact p1.elim
  | .obj _, p1, _ => exact p1.elim
theorem step_o {γ δ : Type} {R' : Hp → Io → δ → γ → Prop} {Q : δ → Hp → Prop} {fo : OE} {k : Option Int → Mem → Res γ} (g : GR X.kx G ι m H) (ev : EnvR X.kx G ι ρ σ) (p : PostG X R' W G ι H ((fo ρ m).bind k) Q) :
    tOE X W fo σ H fun v H' => ∃ G' ι' m', Ext G ι H G' ι' H' ∧ GR X.kx G' ι' m' H' ∧ EnvR X.kx G' ι' ρ σ ∧ PostG X R' W G' ι' H' (k v m') Q := by
  refine ⟨G, ι, ρ, m, g, ev, ?_⟩
  have q := postG_bind (R := fun _ _ (x : Option Int) y => x = y) p
  cases hr : fo ρ m with
  | no => rw [hr] at q; exact q
  | ex e m1 => rw [hr] at q; exact q
  | ok x m1 =>
    rw [hr] at q
    intro v G' ι' H' e g r
    obtain ⟨G2, ι2, m2, y, e2, g2, r2, he, p2⟩ := q v G' ι' H' e g r
    cases (show v = y from r2)
    exact ⟨G2, ι2, m2, e2, g2, ev.ext e2, p2⟩
theorem tOE_mono {fo : OE} {Q Q' : Option Int → Hp → Prop} (h : tOE X W fo σ H Q) (q : ∀ v H', Q v H' → Q' v H') : tOE X W fo σ H Q' := by
  obtain ⟨G, ι, ρ, m, g, ev, p⟩ := h
  refine ⟨G, ι, ρ, m, g, ev, ?_⟩
  cases hr : fo ρ m with
  | no => rw [hr] at p; exact p
  | ex e m1 => rw [hr] at p; exact p
  | ok x m1 => rw [hr] at p; exact fun v G' ι' H' e g r => q _ _ (p v G' ι' H' e g r)
def rSlD (K : PySem.W.Frag) : V → Option Int → Option Int → Hp → VK → Prop := fun x lo hi H Q => rSlL K x lo hi H Q ∨ rSlA K x lo hi H Q ∨ rSlS x lo hi H Q
theorem sl_all : SlR X (rSlD X.K) := sl_list.or (sl_tupA.or sl_str)
theorem RepAll.cut {K : Kx} {vs : List V} {ds : List D} (r : RepAll K G vs ds) (lo hi : Option Int) : RepAll K G (cutV vs lo hi) (cutD ds lo hi) := by
  unfold cutV cutD
  rw [show HT.sIx vs.length 0 lo = sixD ds.length 0 lo by rw [r.length]; cases lo <;> rfl, show HT.sIx vs.length vs.length hi = sixD ds.length ds.length hi by rw [r.length]; cases hi <;> rfl]
  exact (r.drop _).take _
theorem cutS_txt (s : List Char) (lo hi : Option Int) : cutS (txt s) lo hi = txt (cutD s lo hi) := by
  unfold cutS cutD
  rw [show (txt s).cps.toList = s.map Char.toNat by simp [txt], txt_length]
  rw [show HT.sIx s.length 0 lo = sixD s.length 0 lo by cases lo <;> rfl, show HT.sIx s.length s.length hi = sixD s.length s.length hi by cases hi <;> rfl]
  unfold txt
  rw [List.map_take, List.map_drop]
theorem cutD_whole {α : Type} (xs : List α) {lo hi : Option Int} (h : sixD xs.length 0 lo = 0 ∧ sixD xs.length xs.length hi = xs.length) : cutD xs lo hi = xs := by
  unfold cutD
  rw [h.1, h.2]
  simp
theorem ds_slice {v : V} {x d : D} {lo hi : Option Int} {Q : VK} (g : GR X.kx G ι m H) (rx : RepW X.kx G H v x) (e : dSl x lo hi = some d) (fin : Fin X.kx G ι m H Q d) : rSlD X.K v lo hi H Q := by
  cases x with
  | lst xs =>
    obtain ⟨a, vs, rfl, h, r⟩ := rx
    cases e
    exact .inl ⟨a, vs, rfl, h, fun q hq => g.layL hq (r.cut lo hi) fin⟩
  | tup xs =>
    obtain ⟨a, vs, rfl, h, r⟩ := rx
    cases e
    refine .inr (.inl ⟨a, vs, rfl, g.sub.sqt h, fun hw => ?_, fun _ q hq => g.layT hq (r.cut lo hi) fin⟩)
    rw [r.length] at hw
    rw [cutD_whole xs (by cases lo <;> cases hi <;> exact hw)] at fin
    exact fin.here g (.tup h r)
  | str s =>
    cases (show v = .str (txt s) from rx)
    obtain ⟨h, e⟩ := ite_some e
    cases e
    refine .inr (.inr ⟨txt s, rfl, by rw [txt_length, ← lineL_eq]; exact h, ?_⟩)
    rw [cutS_txt]
    exact fin.here g (.str _)
  | _ => cases e
theorem se_slice {lo hi : Option Expr} {fl fh : OE} {p2 : Pos} (ha : SEx X W a fa) (hl : SOp X W lo fl) (hh : SOp X W hi fh) : SEx X W (.Subscript a (.Slice lo hi none p2) pos) (eSl dSl fa fl fh) := by
  refine ⟨pe_weak (pe_slice sl_all ha.pe hl.po hh.po) fun σ H Q ⟨G, ι, ρ, m, g, ev, p⟩ => ?_⟩
  rw [postE_G] at p
  refine tE_mono (step_e g ev p) fun v H1 ⟨G1, ι1, m1, x, x1, g1, ev1, r1, _, p1⟩ => ?_
  refine tOE_mono (step_o g1 ev1 p1) fun l H2 ⟨G2, ι2, m2, x2, g2, ev2, p2⟩ => ?_
  refine tOE_mono (step_o g2 ev2 p2) fun u H3 ⟨G3, ι3, m3, x3, g3, ev3, p3⟩ => ?_
  rw [← postE_G] at p3
  obtain ⟨d, e, fin⟩ := post_ofO (H := H3) p3
  cases hx : vw m3 x with
  | none => rw [hx] at e; cases e
  | some dx =>
    rw [hx] at e
    exact ds_slice g3 (((r1.ext x2).ext x3).view g3 hx) e fin
/-! ### built-ins of one place -/
/-- f(x), f a built-in function or class -/
def Bi1 (X : Cx) (f : D → Option D) (r : List V → Hp → VK → Prop) : Prop := ∀ {G ι m H v x d} {Q : VK}, GR X.kx G ι m H → RepW X.kx G H v x → f x = some d → Fin X.kx G ι m H Q d → r [v] H Q
theorem tA_one {fk : PV → Mem → Res PV} {Q : VK} {k : List V → Hp → Prop} (h : tE X W (fun ρ m => (fa ρ m).bind fk) σ H Q) (hk : ∀ v H', (∃ G ι ρ m x, GR X.kx G ι m H' ∧ EnvR X.kx G ι ρ σ ∧ RepV X.kx G ι v x ∧ PostE X W G ι H' (fk x m) Q) → k [v] H') :
    tCons (tE X W fa) tNil σ H k := by
  obtain ⟨G, ι, ρ, m, g, ev, p⟩ := h
  rw [postE_G] at p
  refine tE_mono (step_e g ev p) fun v H1 ⟨G1, ι1, m1, x, x1, g1, ev1, r1, _, p1⟩ => ?_
  exact hk v H1 ⟨G1, ι1, ρ, m1, x, g1, ev1, r1, postE_G.mpr p1⟩
theorem tE_bi1 {f : D → Option D} {r : List V → Hp → VK → Prop} (hf : Bi1 X f r) {Q : VK} (h : tE X W (e1 f fa) σ H Q) : tCB r (tCons (tE X W fa) tNil) σ H Q := by
  refine tA_one (fk := fun x m => ofO ((vw m x).bind f) m) h fun v H1 ⟨G1, ι1, ρ1, m1, x, g1, ev1, r1, p1⟩ => ?_
  obtain ⟨d, e, fin⟩ := post_ofO (H := H1) p1
  cases hx : vw m1 x with
  | none => rw [hx] at e; cases e
  | some dx =>
    rw [hx] at e
    exact hf g1 (r1.view g1 hx) e fin
theorem se_bf {x : Str} {id : String} {f : D → Option D} {r : List V → Hp → VK → Prop} (hc : CallR X (.builtin id) r) (hf : Bi1 X f r) (hm : X.mg x = none) (ha : SEx X W a fa) (hv : bootBuiltins x = some (.builtin id) := by decide +kernel) (hg : Gl X x := by rfl) (hn : x ≠ "__name__" := by decide +kernel)
    (hdb : (x == ("__debug__" : Str)) = false := by decide +kernel) (he : starEach (a :: []) X.env = (false, eval a X.env) :: starEach [] X.env := by rfl) : SEx X W (.Call (.Name x p) [a] [] pos) (e1 f fa) :=
  ⟨pe_weak (pe_callB hc hg hm hv (pa_cons ha.pe pa_nil he) hn hdb he (by rfl)) fun σ H Q h => tE_bi1 hf h⟩
theorem se_bt {x : Str} {T : String} {f : D → Option D} {r : List V → Hp → VK → Prop} (hc : CallR X (.type T) r) (hf : Bi1 X f r) (hm : X.mg x = none) (ha : SEx X W a fa) (hv : bootBuiltins x = some (.type T) := by decide +kernel) (hg : Gl X x := by rfl) (hn : x ≠ "__name__" := by decide +kernel)
    (hdb : (x == ("__debug__" : Str)) = false := by decide +kernel) (he : starEach (a :: []) X.env = (false, eval a X.env) :: starEach [] X.env := by rfl) : SEx X W (.Call (.Name x p) [a] [] pos) (e1 f fa) :=
  ⟨pe_weak (pe_callTy hc hg hm hv (pa_cons ha.pe pa_nil he) hn hdb he (by rfl)) fun σ H Q h => tE_bi1 hf h⟩
theorem b_len : Bi1 X dLen (fun xs H Q => ∃ x n, xs = [x] ∧ LenV X.K x H n ∧ Q (.int n) H) := by
  intro G ι m H v x d Q g rx e fin
  cases x with
  | str s =>
    cases (show v = .str (txt s) from rx)
    obtain ⟨h, e⟩ := ite_some e
    cases e
    refine ⟨_, s.length, rfl, ⟨by rw [txt_length, ← lineL_eq]; exact h, by rw [txt_length]⟩, fin.here g (.int _)⟩
  | lst xs =>
    obtain ⟨a, vs, rfl, h, r⟩ := rx
    cases e
    exact ⟨_, xs.length, rfl, .inl ⟨vs, h, r.length.symm⟩, fin.here g (.int _)⟩
  | tup xs =>
    obtain ⟨a, vs, rfl, h, r⟩ := rx
    cases e
    exact ⟨_, xs.length, rfl, .inr ⟨vs, g.sub.sqt h, r.length.symm⟩, fin.here g (.int _)⟩
  | _ => cases e
theorem bls_rep {K : Kx} : ∀ {vs : List V} {ds : List D} {bs : List Bool}, RepAll K G vs ds → bls ds = some bs → vs = bs.map V.bl
  | _, _, _, .nil, h => by cases h; rfl
  | _, _, _, .cons r t, h => by
    cases r with
    | bl b =>
      unfold bls at h
      cases hb : bls _ with
      | none => rw [hb] at h; cases h
      | some cs => rw [hb] at h; cases h; rw [bls_rep t hb]; rfl
    | _ => cases h
theorem b_all : Bi1 X dAll (rAll X.K) := by
  intro G ι m H v x d Q g rx e fin
  cases x with
  | lst xs =>
    obtain ⟨a, vs, rfl, h, r⟩ := rx
    unfold dAll at e
    dsimp only at e
    cases hb : bls xs with
    | none => rw [hb] at e; cases e
    | some bs =>
      rw [hb] at e
      cases e
      refine ⟨a, bs, rfl, ?_, fin.here g (.bl _)⟩
      rw [← bls_rep r hb]; exact h
  | _ => cases e
theorem b_any : Bi1 X dAny (rAny X.K) := by
  intro G ι m H v x d Q g rx e fin
  cases x with
  | lst xs =>
    obtain ⟨a, vs, rfl, h, r⟩ := rx
    unfold dAny at e
    dsimp only at e
    cases hb : bls xs with
    | none => rw [hb] at e; cases e
    | some bs =>
      rw [hb] at e
      cases e
      refine ⟨a, bs, rfl, ?_, fin.here g (.bl _)⟩
      rw [← bls_rep r hb]; exact h
  | _ => cases e
theorem b_int : Bi1 X dInt (fun xs H Q => (∃ i, xs = [.int i] ∧ Q (.int i) H) ∨ ∃ k, xs = [.bl k] ∧ Q (.int (if k then 1 else 0)) H) := by
  intro G ι m H v x d Q g rx e fin
  cases x with
  | int i => cases (show v = .int i from rx); cases e; exact .inl ⟨i, rfl, fin.here g (.int _)⟩
  | bl k => cases (show v = .bl k from rx); cases e; exact .inr ⟨k, rfl, fin.here g (.int _)⟩
  | _ => cases e
theorem b_tup : Bi1 X dTupOf (fun xs H Q => ∃ p ys, xs = [.ref p] ∧ ((SqL X.K H p ys ∧ ∀ l, H l = none → Q (.ref l) (upd H l (.tup ys))) ∨ (SqT X.K H p ys ∧ Q (.ref p) H))) := by
  intro G ι m H v x d Q g rx e fin
  cases x with
  | lst xs =>
    obtain ⟨a, vs, rfl, h, r⟩ := rx
    cases e
    exact ⟨a, vs, rfl, .inl ⟨h, fun q hq => g.layT hq r fin⟩⟩
  | tup xs =>
    obtain ⟨a, vs, rfl, h, r⟩ := rx
    cases e
    exact ⟨a, vs, rfl, .inr ⟨g.sub.sqt h, fin.here g (.tup h r)⟩⟩
  | _ => cases e
/-! ### isinstance -/
def tyD : D → String
  | .non => "NoneType" | .bl _ => "bool" | .int _ => "int" | .str _ => "str" | .lst _ => "list" | .tup _ => "tuple" | .dct _ _ => "" | .ins _ _ _ => ""
def dIsi (T : String) (x : D) : Option D := if tyD x = "" then none else (kitB (tyD x) T).map D.bl
theorem RepW.ty {v : V} {x : D} (g : GR X.kx G ι m H) (r : RepW X.kx G H v x) (hx : ¬ tyD x = "") : TyX X.K H v (.type (tyD x)) := by
  cases x with
  | non => cases (show v = .non from r); exact .base .non
  | bl b => cases (show v = .bl b from r); exact .base (.bl b)
  | int b => cases (show v = .int b from r); exact .base (.int b)
  | str b => cases (show v = .str (txt b) from r); exact .base (.str _)
  | lst b =>
    obtain ⟨a, vs, rfl, h, _⟩ := r
    rcases h with (h | ⟨o, h⟩) | ⟨o, _, _, h, c, _⟩
    · exact .base (.lst h)
    · exact .base (.frz h)
    · exact .kList h c
  | tup b =>
    obtain ⟨a, vs, rfl, h, _⟩ := r
    rcases g.sub.sqt h with (h | ⟨o, h⟩) | ⟨o, _, _, h, c, _⟩
    · exact .base (.tup h)
    · exact .fTuple h
    · exact .kTuple h c
  | dct _ _ => exact absurd rfl hx
  | ins _ _ _ => exact absurd rfl hx
theorem se_isi {x t : Str} {T : String} {pt : Pos} (hm : X.mg "isinstance" = none) (hmt : X.mg t = none) (ha : SEx X W a fa) (hv : bootBuiltins t = some (.type T) := by decide +kernel) (hg : Gl X "isinstance" := by rfl) (hgt : Gl X t := by rfl) (hn : t ≠ "__name__" := by decide +kernel)
    (hdb : (t == ("__debug__" : Str)) = false := by decide +kernel) (he : starEach (a :: [.Name t pt]) X.env = (false, eval a X.env) :: starEach [.Name t pt] X.env := by rfl) : SEx X W (.Call (.Name "isinstance" p) [a, .Name t pt] [] pos) (e1 (dIsi T) fa) := by
  have pT : PE X (.Name t pt) (tC (.ty T)) := pe_bltn hgt hmt hv (rfl : RelV (.ty T) (.type T)) hn hdb
  refine ⟨pe_weak (pe_callB call_isi hg hm (by decide +kernel) (pa_cons ha.pe (pa_cons pT pa_nil (by rfl)) he) (by decide +kernel) (by decide +kernel) he (by rfl)) fun σ H Q ⟨G, ι, ρ, m, g, ev, p⟩ => ?_⟩
  rw [postE_G] at p
  refine tE_mono (step_e g ev p) fun v H1 ⟨G1, ι1, m1, x, x1, g1, ev1, r1, _, p1⟩ => ?_
  rw [← postE_G] at p1
  obtain ⟨d, e, fin⟩ := post_ofO (H := H1) p1
  cases hx : vw m1 x with
  | none => rw [hx] at e; cases e
  | some dx =>
    rw [hx] at e
    have e0 : (if tyD dx = "" then none else (kitB (tyD dx) T).map D.bl) = some d := e
    have hne : ¬ tyD dx = "" := fun z => by rw [if_pos z] at e0; cases e0
    rw [if_neg hne] at e0
    have e' : (kitB (tyD dx) T).map D.bl = some d := e0
    cases hk : kitB (tyD dx) T with
    | none => rw [hk] at e'; cases e'
    | some k =>
      rw [hk] at e'
      cases e'
      exact ⟨v, .ty T, .type (tyD dx), .type T, k, rfl, .ty T, (r1.view g1 hx).ty g1 hne, kit_ty hk, fin.here g1 (.bl _)⟩
/-! ### join, list(x) -/
theorem strsD_rep {K : Kx} : ∀ {vs : List V} {ds : List D} {ss : List (List Char)}, RepAll K G vs ds → strsD ds = some ss → vs = (ss.map txt).map V.str
  | _, _, _, .nil, h => by cases h; rfl
  | _, _, _, .cons r t, h => by
    cases r with
    | str s =>
      unfold strsD at h
      cases hb : strsD _ with
      | none => rw [hb] at h; cases h
      | some cs => rw [hb] at h; cases h; rw [strsD_rep t hb]; rfl
    | _ => cases h
theorem join_txt (s : List Char) : ∀ ys : List (List Char), Str.join (txt s) (ys.map txt) = txt (joinC s ys)
  | [] => rfl
  | [x] => rfl
  | x :: y :: r => by
    show txt x ++ txt s ++ Str.join (txt s) ((y :: r).map txt) = txt (x ++ s ++ joinC s (y :: r))
    rw [join_txt s (y :: r), txt_append, txt_append]
def rJn (K : PySem.W.Frag) : R2 := fun x y H Q => ∃ a p, ∃ ys : List Str, x = .str a ∧ y = .ref p ∧ (SqL K H p (ys.map V.str) ∨ SqT K H p (ys.map V.str)) ∧ (ys.map (·.length)).sum + ys.length * a.length ≤ 16777216 ∧ Q (.str (Txt.join a ys)) H
theorem map_len (ss : List (List Char)) : (ss.map txt).map (·.length) = ss.map List.length := by
  rw [List.map_map]
  exact List.map_congr_left fun s _ => txt_length s
theorem ds_join : Op2 X dJoin (rJn X.K) := by
  intro G ι m H v u x y d Q g rx ry e fin
  cases x with
  | str s =>
    cases (show v = .str (txt s) from rx)
    have go : ∀ (ys : List D) (p : Addr) (vs : List V), u = .ref p → (SqL X.K H p vs ∨ SqT X.K H p vs) → RepAll X.kx G vs ys → ((strsD ys).bind fun ys => if (ys.map List.length).sum + ys.length * s.length ≤ lineL then some (D.str (joinC s ys)) else none) = some d → rJn X.K (.str (txt s)) u H Q := by
      intro ys p vs eu hs r e
      cases hb : strsD ys with
      | none => rw [hb] at e; cases e
      | some ss =>
        rw [hb] at e
        obtain ⟨h, e⟩ := ite_some e
        cases e
        refine ⟨txt s, p, ss.map txt, rfl, eu, ?_, ?_, ?_⟩
        · rw [← strsD_rep r hb]; exact hs
        · rw [map_len, List.length_map, txt_length]; exact h
        · show Q (.str (Txt.join _ _)) H; unfold Txt.join
          rw [PySem.StrLaws.glued_eq_join, join_txt]
          exact fin.here g (.str _)
    cases y with
    | lst ys =>
      obtain ⟨a, vs, rfl, h, r⟩ := ry
      exact go ys a vs rfl (.inl h) r e
    | tup ys =>
      obtain ⟨a, vs, rfl, h, r⟩ := ry
      exact go ys a vs rfl (.inr (g.sub.sqt h)) r e
    | _ => cases e
  | _ => cases y <;> cases e
theorem tE_str {k : List Char → Mem → Res PV} {Q : VK} (g : GR X.kx G ι m H) (ev : EnvR X.kx G ι ρ σ) (p : PostG X (fun G ι => RepV X.kx G ι) W G ι H ((fa ρ m).bind fun x m => match x with
    | .d (.str s) => k s m
    | _ => .no) Q) : tE X W fa σ H fun v H' => ∃ G' ι' m' s, Ext G ι H G' ι' H' ∧ GR X.kx G' ι' m' H' ∧ EnvR X.kx G' ι' ρ σ ∧ v = .str (txt s) ∧ PostG X (fun G ι => RepV X.kx G ι) W G' ι' H' (k s m') Q := by
  refine tE_mono (step_e g ev p) fun v H1 ⟨G1, ι1, m1, x, x1, g1, ev1, r1, _, p1⟩ => ?_
  match x, p1, r1 with
  | .d (.str s), p1, r1 => cases r1; exact ⟨G1, ι1, m1, s, x1, g1, ev1, rfl, p1⟩
  | .d .non, p1, _ => exact p1.elim
  | .d (.bl _), p1, _ => exact p1.elim
  | .d (.int _), p1, _ => exact p1.elim
  | .d (.tup _), p1, _ => exact p1.elim
  | .d (.dct _ _), p1, _ => exact p1.elim
  | .d (.ins _ _ _), p1, _ => exact p1.elim
  | .d (.lst _), p1, _ => exact p1.elim
  | .obj _, p1, _ => exact p1.elim
theorem se_join {apos : Pos} (ha : SEx X W a fa) (hb : SEx X W b fb) (hs : starEach [b] X.env = [(false, eval b X.env)] := by rfl) (hbase : attributeBase a "join" X.env (eval a X.env) = eval a X.env := by rfl) (hline : (apos.endLine == pos.line) = true := by rfl) :
    SEx X W (.Call (.Attribute a "join" apos) [b] [] pos) (e2s dJoin fa fb) := by
  refine ⟨pe_weak (pe_join ha.pe hb.pe hs hbase hline) fun σ H Q ⟨G, ι, ρ, m, g, ev, p⟩ => ?_⟩
  rw [postE_G] at p
  refine tE_mono (tE_str g ev p) fun v H1 ⟨G1, ι1, m1, s, x1, g1, ev1, ex, p1⟩ => ?_
  subst ex
  refine ⟨⟨_, rfl⟩, tE_mono (step_e g1 ev1 p1) fun u H2 ⟨G2, ι2, m2, y, x2, g2, ev2, r2, _, p2⟩ => ?_⟩
  rw [← postE_G] at p2
  obtain ⟨d, e, fin⟩ := post_ofO (H := H2) p2
  cases hy : vw m2 y with
  | none => rw [hy] at e; cases e
  | some dy =>
    rw [hy] at e
    obtain ⟨a', p', ys, h1, h2, h3⟩ := ds_join (X := X) g2 (show RepW X.kx G2 H2 (.str (txt s)) (.str s) from rfl) (r2.view g2 hy) e fin
    exact ⟨a', p', ys, h1, by rw [h2], h3⟩
/-- list(x) -/
theorem ne_listOf (hm : X.mg "list" = none) (ha : SEx X W a fa) (hg : Gl X "list" := by rfl) (he : starEach (a :: []) X.env = (false, eval a X.env) :: starEach [] X.env := by rfl) : NEx X W (.Call (.Name "list" p) [a] [] pos) (nSq fa) := by
  refine ⟨pe_weak (pe_callTy call_list_of hg hm (by decide +kernel) (pa_cons ha.pe pa_nil he) (by decide +kernel) (by decide +kernel) he (by rfl)) fun σ H Q ⟨G, ι, ρ, m, g, ev, p⟩ => ?_⟩
  refine ⟨G, ι, ρ, m, g, ev, ?_⟩
  unfold nSq at p
  cases hr : fa ρ m with
  | no => rw [hr] at p; exact p
  | ex e m1 => rw [hr] at p; exact p
  | ok x m1 =>
    rw [hr] at p
    intro v G' ι' H' e g r
    rw [Res.bind_ok] at p
    cases hx : vw m1 x with
    | none => rw [hx] at p; exact p.elim
    | some d =>
      rw [hx] at p
      cases d with
      | lst xs =>
        obtain ⟨a, vs, rfl, h, q⟩ := r.view g hx
        exact ⟨a, vs, rfl, .inl h, fun q' hq => p q' vs G' ι' H' e g hq q⟩
      | tup xs =>
        obtain ⟨a, vs, rfl, h, q⟩ := r.view g hx
        exact ⟨a, vs, rfl, .inr (g.sub.sqt h), fun q' hq => p q' vs G' ι' H' e g hq q⟩
      | _ => exact p.elim
end
end DI
namespace DI
open PySem PySem.Spec PyProof.Rows L2
section
variable {X : Cx} {W : XK} {a b c e : Expr} {es rest : List Expr} {fa fb fc f : SE} {fs : List SE} {pos p : Pos} {G H : Hp} {ι : Io} {ρ : Env} {m : Mem} {σ : L2.St}
/-! ### targets -/
def OffEq (is : List Nat) (σ σ' : L2.St) : Prop := σ'.length = σ.length ∧ ∀ j, j ∉ is → σ'[j]? = σ[j]?
theorem OffEq.set {is : List Nat} {σ : L2.St} {i : Nat} (h : i ∈ is) (v : Option V) : OffEq is σ (σ.set i v) := ⟨by simp, fun j hj => by
  rw [List.getElem?_set_ne]
  rintro rfl
  exact hj h⟩
theorem OffEq.trans {is : List Nat} {σ σ1 σ2 : L2.St} (a : OffEq is σ σ1) (b : OffEq is σ1 σ2) : OffEq is σ σ2 := ⟨b.1.trans a.1, fun j hj => (b.2 j hj).trans (a.2 j hj)⟩
theorem OffEq.mono {is js : List Nat} {σ σ1 : L2.St} (a : OffEq is σ σ1) (h : ∀ i ∈ is, i ∈ js) : OffEq js σ σ1 := ⟨a.1, fun j hj => a.2 j fun z => hj (h j z)⟩
theorem wipe_get {σ : L2.St} : ∀ (vs : List Nat) (j : Nat), (wipe σ vs)[j]? = if j ∈ vs ∧ j < σ.length then some none else σ[j]?
  | [], j => by simp [wipe]
  | v :: vs, j => by
    unfold wipe
    by_cases h : v = j
    · subst h
      by_cases hl : v < σ.length
      · rw [List.getElem?_set_self (by rw [wipe_length]; exact hl), if_pos ⟨by simp, hl⟩]
      · rw [List.getElem?_eq_none (by rw [List.length_set, wipe_length]; omega), if_neg (fun z => hl z.2), List.getElem?_eq_none (by omega)]
    · rw [List.getElem?_set_ne h, wipe_get vs j]
      have e : (j ∈ v :: vs ∧ j < σ.length) ↔ (j ∈ vs ∧ j < σ.length) := by
        simp only [List.mem_cons]
        constructor
        · rintro ⟨h1 | h1, h2⟩
          · exact absurd h1.symm h
          · exact ⟨h1, h2⟩
        · rintro ⟨h1, h2⟩
          exact ⟨.inr h1, h2⟩
      by_cases q : j ∈ vs ∧ j < σ.length
      · rw [if_pos q, if_pos (e.mpr q)]
      · rw [if_neg q, if_neg fun z => q (e.mp z)]
theorem wipe_off {σ σ' : L2.St} {vs : List Nat} (h : OffEq vs (wipe σ vs) σ') : wipe σ' vs = wipe σ vs := by
  apply List.ext_getElem?
  intro j
  have hl : σ'.length = σ.length := by rw [h.1, wipe_length]
  rw [wipe_get, wipe_get, hl]
  by_cases q : j ∈ vs ∧ j < σ.length
  · rw [if_pos q, if_pos q]
  · rw [if_neg q, if_neg q]
    by_cases hj : j ∈ vs
    · have hlen : ¬ j < σ.length := fun z => q ⟨hj, z⟩
      rw [List.getElem?_eq_none (by omega), List.getElem?_eq_none (by omega)]
    · rw [h.2 j hj, wipe_get, if_neg q]
def tG (X : Cx) (is : List Nat) (tg : Tg) : TG := fun v σ H Q => ∃ G ι ρ m x, GR X.kx G ι m H ∧ EnvR X.kx G ι ρ σ ∧ RepV X.kx G ι v x ∧ match tg x ρ with
  | some ρ' => ∀ σ', EnvR X.kx G ι ρ' σ' → OffEq is σ σ' → Q σ' H
  | none => False
structure STg (X : Cx) (e : Expr) (is : List Nat) (tg : Tg) : Prop where
  pg : PG X e (tG X is tg)
theorem pg_weak {t t' : TG} (h : PG X e t) (w : ∀ v σ H Q, t' v σ H Q → t v σ H Q) : PG X e t' := ⟨fun pins s σ H v u Q I r q => h.run pins s σ H v u Q I r (w _ _ _ _ q)⟩
theorem pgs_weak {t t' : TGs} (h : PGs X es t) (w : ∀ v σ H Q, t' v σ H Q → t v σ H Q) : PGs X es t' := ⟨fun pins s σ H v u Q I r q => h.run pins s σ H v u Q I r (w _ _ _ _ q)⟩
theorem tg_name (i : Nat) {x : Str} (hN : X.N.Nodup) (hx : Loc X.env.scope x := by first | exact Or.inl rfl | exact Or.inr rfl) (hi : X.N[i]? = some x := by rfl) (hf : X.fn x = true ∨ X.env.scope.names.lookup x = some .local := by first | exact .inl rfl | exact .inr rfl | assumption) : STg X (.Name x pos) [i] (tN i) := by
  refine ⟨pg_weak (pg_name hN hi hx hf) fun v σ H Q ⟨G, ι, ρ, m, x, g, ev, r, q⟩ => ?_⟩
  exact q _ (ev.set r i) (OffEq.set (by simp) _)
def tGs (X : Cx) (is js : List Nat) : TGs := fun vs σ H Q => ∃ G ι ρ m xs, GR X.kx G ι m H ∧ EnvR X.kx G ι ρ σ ∧ RepAll X.kx G vs xs ∧ match setAll js xs ρ with
  | some ρ' => ∀ σ', EnvR X.kx G ι ρ' σ' → OffEq is σ σ' → Q σ' H
  | none => False
structure STgs (X : Cx) (es : List Expr) (is js : List Nat) : Prop where
  pg : PGs X es (tGs X is js)
theorem tgs_nil {is : List Nat} : STgs X [] is [] := by
  refine ⟨pgs_weak pgs_nil fun vs σ H Q ⟨G, ι, ρ, m, xs, g, ev, r, q⟩ => ?_⟩
  cases r with
  | nil => exact ⟨rfl, q σ ev ⟨rfl, fun _ _ => rfl⟩⟩
  | cons _ _ => exact q.elim
theorem tgs_cons (i : Nat) {x : Str} {is js : List Nat} (hN : X.N.Nodup) (h : STgs X es is js) (hx : Loc X.env.scope x := by first | exact Or.inl rfl | exact Or.inr rfl) (hi : X.N[i]? = some x := by rfl) (hf : X.fn x = true ∨ X.env.scope.names.lookup x = some .local := by first | exact .inl rfl | exact .inr rfl | assumption)
    (hm : i ∈ is := by decide) (hs : (assignEach (.Name x pos :: es) X.env).map (·.2) = assign (.Name x pos) X.env :: (assignEach es X.env).map (·.2) := by rfl) : STgs X (.Name x pos :: es) is (i :: js) := by
  refine ⟨pgs_weak (pgs_cons (pg_name hN hi hx hf) h.pg hs) fun vs σ H Q ⟨G, ι, ρ, m, xs, g, ev, r, q⟩ => ?_⟩
  cases r with
  | nil => exact q.elim
  | @cons v vs d ds r t =>
    refine ⟨v, vs, rfl, ⟨G, ι, ρ.set i (some (.d d)), m, ds, g, ev.set (x := .d d) r i, t, ?_⟩⟩
    have q' : match setAll js ds (ρ.set i (some (.d d))) with
      | some ρ' => ∀ σ', EnvR X.kx G ι ρ' σ' → OffEq is σ σ' → Q σ' H
      | none => False := q
    cases hs : setAll js ds (ρ.set i (some (.d d))) with
    | none => rw [hs] at q'; exact q'
    | some ρ' => rw [hs] at q'; exact fun σ' e o => q' σ' e ((OffEq.set hm _).trans o)
theorem setAll_len : ∀ {js : List Nat} {xs : List D} {ρ ρ' : Env}, setAll js xs ρ = some ρ' → xs.length = js.length
  | [], [], _, _, _ => rfl
  | [], _ :: _, _, _, h => by cases h
  | _ :: _, [], _, _, h => by cases h
  | _ :: js, _ :: xs, ρ, ρ', h => by simp [setAll_len (js := js) (xs := xs) h]
theorem tg_tup {is : List Nat} {k n : Nat} (hc : X.calm = true) (h : STgs X es is is) (hl : is.length = n := by rfl) (hn : (assignEach es X.env).length = n := by rfl) (hst : (assignEach es X.env).findIdx? (·.1) = none := by rfl) : STg X (.Tuple es k pos) is (tT is) := by
  refine ⟨pg_weak (pg_tup hc h.pg hn hst) fun v σ H Q ⟨G, ι, ρ, m, x, g, ev, r, q⟩ => ?_⟩
  match x, q, r with
  | .d (.tup xs), q, r =>
    cases r with
    | tup hs r =>
      have q' : match setAll is xs ρ with
        | some ρ' => ∀ σ', EnvR X.kx G ι ρ' σ' → OffEq is σ σ' → Q σ' H
        | none => False := q
      refine ⟨_, _, rfl, g.sub.sqt hs, ?_, ⟨G, ι, ρ, m, xs, g, ev, r, q'⟩⟩
      rw [r.length, ← hl]
      cases hs : setAll is xs ρ with
      | none => rw [hs] at q'; exact q'.elim
      | some ρ' => exact setAll_len hs
  | .d .non, q, _ => exact q.elim
  | .d (.bl _), q, _ => exact q.elim
  | .d (.int _), q, _ => exact q.elim
  | .d (.str _), q, _ => exact q.elim
  | .d (.lst _), q, _ => exact q.elim
  | .obj _, q, _ => exact q.elim
  | .raw _, q, _ => exact q.elim

/-! ### what is walked -/
structure WalkD (K : Kx) (G : Hp) (J : It) (xs : List D) : Prop where
  goes : ∀ i G' ι m H, i < xs.length → Sub G G' → GR K G' ι m H → J.go i H
  stops : ∀ G' ι m H, Sub G G' → GR K G' ι m H → J.stop xs.length H
  yields : ∀ i G' ι m H v H', i < xs.length → Sub G G' → GR K G' ι m H → J.yld i H v H' → ∃ G2 d, xs[i]? = some d ∧ Ext G' ι H G2 ι H' ∧ GR K G2 ι m H' ∧ Rep K G2 v d
def tI (X : Cx) (W : XK) (f : IE) : TI := fun σ H R => ∃ G ι ρ m, GR X.kx G ι m H ∧ EnvR X.kx G ι ρ σ ∧ PostG X (fun G _ J xs => WalkD X.kx G J xs) W G ι H (f ρ m) R
structure SIx (X : Cx) (W : XK) (tg e : Expr) (f : IE) : Prop where
  pi : PI X tg e (tI X W f)
theorem pi_weak {tg : Expr} {t t' : TI} (h : PI X tg e t) (w : ∀ σ H R, t' σ H R → t σ H R) : PI X tg e t' := ⟨fun pins s σ H R I q => h.run pins s σ H R I (w _ _ _ q)⟩
theorem pi_or {tg : Expr} {t t' : TI} (h : PI X tg e t) (h' : PI X tg e t') : PI X tg e (fun σ H R => t σ H R ∨ t' σ H R) := ⟨fun pins s σ H R I q => q.elim (h.run pins s σ H R I) (h'.run pins s σ H R I)⟩
theorem walkD_list {K : Kx} {a : Addr} {vs : List V} {xs : List D} (h : SqL K.K G a vs) (r : RepAll K G vs xs) : WalkD K G (Itl K.K a) xs where
  goes := fun i G' ι m H hi s g => by
    rw [← r.length] at hi
    exact ⟨vs, vs[i], g.sub.sql (s.sql h), by simp [hi]⟩
  stops := fun G' ι m H s g => ⟨vs, g.sub.sql (s.sql h), by rw [r.length]; exact Nat.le_refl _⟩
  yields := fun i G' ι m H v H' hi s g y => by
    obtain ⟨rfl, y⟩ := y
    have hv := y vs (g.sub.sql (s.sql h))
    obtain ⟨d, h1, h2⟩ := r.getV hv
    exact ⟨G', d, h1, Ext.refl .., g, Rep.mono s h2⟩
theorem walkD_tup {K : Kx} {a : Addr} {vs : List V} {xs : List D} (h : SqT K.K G a vs) (r : RepAll K G vs xs) : WalkD K G (Itt K.K a) xs where
  goes := fun i G' ι m H hi s g => by
    rw [← r.length] at hi
    exact ⟨vs, vs[i], g.sub.sqt (s.sqt h), by simp [hi]⟩
  stops := fun G' ι m H s g => ⟨vs, g.sub.sqt (s.sqt h), by rw [r.length]; exact Nat.le_refl _⟩
  yields := fun i G' ι m H v H' hi s g y => by
    obtain ⟨rfl, y⟩ := y
    have hv := y vs (g.sub.sqt (s.sqt h))
    obtain ⟨d, h1, h2⟩ := r.getV hv
    exact ⟨G', d, h1, Ext.refl .., g, Rep.mono s h2⟩
theorem walkD_str {K : Kx} (s : List Char) : WalkD K G (Its (txt s)) (s.map fun c => .str [c]) where
  goes := fun i G' ι m H hi _ g => by
    rw [List.length_map] at hi
    show i < (txt s).cps.size
    simpa [txt] using hi
  stops := fun G' ι m H _ g => by show (txt s).cps.size ≤ _; simp [txt]
  yields := fun i G' ι m H v H' hi _ g y => by
    obtain ⟨rfl, c, hc, rfl⟩ := y
    rw [List.length_map] at hi
    refine ⟨G', .str [s[i]], by simp [hi], Ext.refl .., g, ?_⟩
    have : c = s[i].toNat := by
      simp [txt, hi] at hc
      exact hc.symm
    subst this
    exact .str [s[i]]
theorem walkD_rng {K : Kx} (lo : Int) (n : Nat) : WalkD K G (Itr lo n) (rng lo n) where
  goes := fun i G' ι m H hi _ g => by show i < n; simpa [rng] using hi
  stops := fun G' ι m H _ g => by show n ≤ _; simp [rng]
  yields := fun i G' ι m H v H' hi _ g y => by
    obtain ⟨rfl, rfl⟩ := y
    have hi' : i < n := by simpa [rng] using hi
    exact ⟨G', .int (lo + i), by simp [rng, hi'], Ext.refl .., g, .int _⟩
/-- a list, a tuple, a text -/
theorem si_val {tg : Expr} (h : SEx X W e f) : SIx X W tg e (iV f) := by
  refine ⟨pi_weak (pi_or (pi_list h.pe) (pi_or (pi_tup h.pe) (pi_str h.pe))) fun σ H R ⟨G, ι, ρ, m, g, ev, p⟩ => ?_⟩
  have p' : PostG X (fun G _ J xs => WalkD X.kx G J xs) W G ι H ((f ρ m).bind fun x m => match x with
    | .d x => (match itD x with
      | some xs => .ok xs m
      | none => .no)
    | _ => .no) R := p
  cases hr : f ρ m with
  | no => rw [hr] at p'; exact p'.elim
  | ex ex m1 =>
    rw [hr] at p'
    refine .inl ⟨G, ι, ρ, m, g, ev, ?_⟩
    rw [hr]; exact p'
  | ok x m1 =>
    rw [hr] at p'
    rw [Res.bind_ok] at p'
    match x, p', hr with
    | .d (.lst xs), p', hr =>
      refine .inl ⟨G, ι, ρ, m, g, ev, ?_⟩
      rw [hr]
      intro v G' ι' H' e g' r
      cases r with
      | lst h r => exact ⟨_, rfl, ⟨_, g'.sub.sql h⟩, p' _ G' ι' H' e g' (walkD_list h r)⟩
    | .d (.tup xs), p', hr =>
      refine .inr (.inl ⟨G, ι, ρ, m, g, ev, ?_⟩)
      rw [hr]
      intro v G' ι' H' e g' r
      cases r with
      | tup h r => exact ⟨_, rfl, ⟨_, g'.sub.sqt h⟩, p' _ G' ι' H' e g' (walkD_tup h r)⟩
    | .d (.str s), p', hr =>
      refine .inr (.inr ⟨G, ι, ρ, m, g, ev, ?_⟩)
      rw [hr]
      intro v G' ι' H' e g' r
      cases r
      exact ⟨_, rfl, p' _ G' ι' H' e g' (walkD_str s)⟩
    | .d .non, p', _ => exact p'.elim
    | .d (.bl _), p', _ => exact p'.elim
    | .d (.int _), p', _ => exact p'.elim
    | .obj _, p', _ => exact p'.elim
    | .raw _, p', _ => exact p'.elim
theorem fits62_of {i : Int} (h : fits62 i = true) : -(2 ^ 62) ≤ i ∧ i < 2 ^ 62 := by
  have := of_decide_eq_true h
  omega
theorem si_range1 {tg : Expr} (hm : X.mg "range" = none) (h : SEx X W a fa) (hg : Gl X "range" := by rfl) (hs : starEach [a] X.env = [(false, eval a X.env)] := by rfl) : SIx X W tg (.Call (.Name "range" p) [a] [] pos) (iR1 fa) := by
  refine ⟨pi_weak (pi_range1 hg hm (pa_cons h.pe pa_nil hs) hs) fun σ H R ⟨G, ι, ρ, m, g, ev, p⟩ => ?_⟩
  have p' : PostG X (fun G _ J xs => WalkD X.kx G J xs) W G ι H ((fa ρ m).bind fun x m => match x with
    | .d (.int j) => if fits62 j then .ok (rng 0 j.toNat) m else .no
    | _ => .no) R := p
  refine tE_mono (step_e g ev p') fun v H1 ⟨G1, ι1, m1, x, x1, g1, ev1, r1, _, p1⟩ => ?_
  match x, p1, r1 with
  | .d (.int j), p1, r1 =>
    cases r1
    have p2 : PostG X (fun G _ J xs => WalkD X.kx G J xs) W G1 ι1 H1 (if fits62 j = true then .ok (rng 0 j.toNat) m1 else .no) R := p1
    by_cases hf : fits62 j = true
    · rw [if_pos hf] at p2
      exact ⟨j, rfl, (fits62_of hf).1, (fits62_of hf).2, p2 _ G1 ι1 H1 (Ext.refl ..) g1 (walkD_rng 0 _)⟩
    · rw [if_neg hf] at p2; exact p2.elim
  | .d .non, p1, _ => exact p1.elim
  | .d (.bl _), p1, _ => exact p1.elim
  | .d (.str _), p1, _ => exact p1.elim
  | .d (.tup _), p1, _ => exact p1.elim
  | .d (.dct _ _), p1, _ => exact p1.elim
  | .d (.ins _ _ _), p1, _ => exact p1.elim
  | .d (.lst _), p1, _ => exact p1.elim
  | .obj _, p1, _ => exact p1.elim
  | .raw _, p1, _ => exact p1.elim
theorem int_or (x : PV) : (∃ i, x = .d (.int i)) ∨ ∀ (α : Type) (k : Int → α) (z : α), (match x with | .d (.int i) => k i | _ => z) = z := by
  match x with
  | .d (.int i) => exact .inl ⟨i, rfl⟩
  | .d .non => exact .inr fun _ _ _ => rfl
  | .d (.bl _) => exact .inr fun _ _ _ => rfl
  | .d (.str _) => exact .inr fun _ _ _ => rfl
  | .d (.tup _) => exact .inr fun _ _ _ => rfl
  | .d (.dct _ _) => exact .inr fun _ _ _ => rfl
  | .d (.ins _ _ _) => exact .inr fun _ _ _ => rfl
  | .d (.lst _) => exact .inr fun _ _ _ => rfl
  | .obj _ => exact .inr fun _ _ _ => rfl
  | .raw _ => exact .inr fun _ _ _ => rfl
theorem si_range2 {tg : Expr} (hm : X.mg "range" = none) (h : SEx X W a fa) (h' : SEx X W b fb) (hg : Gl X "range" := by rfl) (hs : starEach [a, b] X.env = [(false, eval a X.env), (false, eval b X.env)] := by rfl) (hs2 : starEach [b] X.env = [(false, eval b X.env)] := by rfl)
    (hs3 : starEach (a :: [b]) X.env = (false, eval a X.env) :: starEach [b] X.env := by rfl) : SIx X W tg (.Call (.Name "range" p) [a, b] [] pos) (iR2 fa fb) := by
  refine ⟨pi_weak (pi_range2 hg hm (pa_cons h.pe (pa_cons h'.pe pa_nil hs2) hs3) hs hs2) fun σ H R ⟨G, ι, ρ, m, g, ev, p⟩ => ?_⟩
  have p' : PostG X (fun G _ J xs => WalkD X.kx G J xs) W G ι H ((fa ρ m).bind fun x m => (fb ρ m).bind fun y m => match x, y with
    | .d (.int i), .d (.int j) => if fits62 i && fits62 j then .ok (rng i (j - i).toNat) m else .no
    | _, _ => .no) R := p
  refine tE_mono (step_e g ev p') fun v H1 ⟨G1, ι1, m1, x, x1, g1, ev1, r1, _, p1⟩ => ?_
  refine tE_mono (step_e g1 ev1 p1) fun u H2 ⟨G2, ι2, m2, y, x2, g2, ev2, r2, _, p2⟩ => ?_
  have key : ∃ i j, x = .d (.int i) ∧ y = .d (.int j) := by
    match x, y, p2 with
    | .d (.int i), .d (.int j), _ => exact ⟨i, j, rfl, rfl⟩
    | .d (.int i), .d .non, p2 => exact p2.elim
    | .d (.int i), .d (.bl _), p2 => exact p2.elim
    | .d (.int i), .d (.str _), p2 => exact p2.elim
    | .d (.int i), .d (.tup _), p2 => exact p2.elim
    | .d (.int i), .d (.dct _ _), p2 => exact p2.elim
    | .d (.int i), .d (.ins _ _ _), p2 => exact p2.elim
    | .d (.int i), .d (.lst _), p2 => exact p2.elim
    | .d (.int i), .obj _, p2 => exact p2.elim
    | .d .non, _, p2 => exact p2.elim
    | .d (.bl _), _, p2 => exact p2.elim
    | .d (.str _), _, p2 => exact p2.elim
    | .d (.tup _), _, p2 => exact p2.elim
    | .d (.dct _ _), _, p2 => exact p2.elim
    | .d (.ins _ _ _), _, p2 => exact p2.elim
    | .d (.lst _), _, p2 => exact p2.elim
    | .obj _, _, p2 => exact p2.elim
    | .raw _, _, p2 => exact p2.elim
  obtain ⟨i, j, rfl, rfl⟩ := key
  cases r1
  cases r2
  have p3 : PostG X (fun G _ J xs => WalkD X.kx G J xs) W G2 ι2 H2 (if (fits62 i && fits62 j) = true then .ok (rng i (j - i).toNat) m2 else .no) R := p2
  by_cases hf : (fits62 i && fits62 j) = true
  · rw [if_pos hf] at p3
    rw [Bool.and_eq_true] at hf
    exact ⟨i, j, rfl, ⟨(fits62_of hf.1).1, (fits62_of hf.1).2, (fits62_of hf.2).1, (fits62_of hf.2).2⟩, p3 _ G2 ι2 H2 (Ext.refl ..) g2 (walkD_rng i _)⟩
  · rw [if_neg hf] at p3; exact p3.elim
end
end DI
namespace DI
open PySem PySem.Spec PyProof.Rows L2
section
variable {X : Cx} {W : XK} {a b c e elt tg iter : Expr} {es rest ifs : List Expr} {fa fb fc f fe : SE} {fi : IE} {tgt : Tg} {fs : List SE} {pos p : Pos} {G H : Hp} {ι : Io} {ρ : Env} {m : Mem} {σ : L2.St}
/-! ### comprehensions -/
/-- no exception is let out -/
def W0 : XK := fun _ _ _ => False
theorem tk0 {X : Cx} : Tk X W0 := fun _ _ x => by
  obtain ⟨_, _, _, _, _, _, _, _, _, _, _, _, _, _, _, _, z⟩ := x
  exact z.elim
structure STs (X : Cx) (ifs : List Expr) (f : SE) : Prop where
  pt : PTs X ifs (tTe X W0 f)
theorem pts_weak {t t' : TT} (h : PTs X ifs t) (w : ∀ σ H Q, t' σ H Q → t σ H Q) : PTs X ifs t' := ⟨fun pins s σ H Q I q => h.run pins s σ H Q I (w _ _ _ q)⟩
theorem sts_nil : STs X [] tsY := ⟨pts_weak pts_nil fun σ H Q ⟨G, ι, ρ, m, g, ev, hb, p⟩ => p true G ι H (Ext.refl ..) g rfl⟩
theorem sts_one (h : STe X W0 c f) : STs X [c] f := ⟨pts_one h.pt⟩
theorem sub_of_ext {G' ι' H'} (e : Ext G ι H G' ι' H') : Sub G G' := e.sub
/-- the accumulator stands apart -/
theorem acc_apart {K : Kx} {G G' H H' : Hp} {ι ι' : Io} {m' : Mem} {D' : Addr} {o : HO} (e : Ext G ι H G' ι' H') (g' : GR K G' ι' m' H') (h1 : H D' = some o) (h2 : D' ∉ ι.flatten) (h3 : G D' = none) : H' D' = some o ∧ D' ∉ ι'.flatten ∧ G' D' = none := by
  refine ⟨e.kp _ _ h1 h2, fun hm => ?_, ?_⟩
  · obtain ⟨t, rfl, ht⟩ := e.pre
    rw [List.flatten_append, List.mem_append] at hm
    rcases hm with hm | hm
    · exact h2 hm
    · rw [ht _ hm] at h1; cases h1
  · cases q : G' D' with
    | none => rfl
    | some u =>
      rcases e.gk _ _ q with z | z | z
      · rw [h3] at z; cases z
      · rw [h1] at z; cases z
      · exact absurd z h2
/-- a tracked object that is none of ours is changed -/
theorem GR.other {K : Kx} (g : GR K G ι m H) {q : Addr} (h2 : q ∉ ι.flatten) (h3 : G q = none) (o : HO) : GR K G ι m (upd H q o) :=
  ⟨sub_updR g.sub h3, g.len, g.nd, fun i l o' hl ho => (g.obj i l o' hl ho).mono (Sub.refl G) fun a ha => ⟨id, by
    rw [upd_ne]
    rintro rfl
    exact h2 (mem_io hl ha)⟩⟩
theorem ext_other {G' ι' H'} (e : Ext G ι H G' ι' H') {q : Addr} (hq : H q = none) (o : HO) : Ext G ι H G' ι' (upd H' q o) :=
  ⟨e.sub, e.pre, fun a u h hn => by rw [upd_ne (ne_of_none h hq)]; exact e.kp a u h hn, fun a h => by
    by_cases z : a = q
    · subst z; exact hq
    · rw [upd_ne z] at h; exact e.dm a h, e.gk⟩
def hidD (H : Hp) (q : Addr) : Hp := fun b => if b = q then none else H b
theorem hidD_ne {H : Hp} {q b : Addr} (h : b ≠ q) : hidD H q b = H b := if_neg h
theorem hidD_eq {H : Hp} {q : Addr} : hidD H q q = none := if_pos rfl
theorem upd_hid {H : Hp} {q : Addr} {o : HO} (h : H q = some o) : H = upd (hidD H q) q o := by
  funext b
  by_cases z : b = q
  · subst z; rw [upd_same, h]
  · rw [upd_ne z, hidD_ne z]
theorem lcL_cons (tgt : Tg) (ts fe : SE) (x : D) (xs : List D) (ρ : Env) (m : Mem) (acc : List D) : lcL tgt ts fe (x :: xs) ρ m acc = match tgt (.d x) ρ with
    | none => .no
    | some ρ1 => match ts ρ1 m with
      | .ok (.d (.bl true)) m1 => (match fe ρ1 m1 with
        | .ok (.d y) m2 => lcL tgt ts fe xs ρ m2 (acc ++ [y])
        | _ => .no)
      | .ok (.d (.bl false)) m1 => lcL tgt ts fe xs ρ m1 acc
      | _ => .no := rfl
theorem lcL_noex (tgt : Tg) (ts fe : SE) : ∀ (xs : List D) (ρ : Env) (m : Mem) (acc : List D) (e : Exc) (m' : Mem), lcL tgt ts fe xs ρ m acc ≠ .ex e m'
  | [], ρ, m, acc, e, m' => by unfold lcL; exact fun h => by cases h
  | x :: xs, ρ, m, acc, e, m' => by
    rw [lcL_cons]
    cases tgt (.d x) ρ with
    | none => exact fun h => by cases h
    | some ρ1 =>
      dsimp only
      cases ht : ts ρ1 m with
      | no => exact fun h => by cases h
      | ex _ _ => exact fun h => by cases h
      | ok t m1 =>
        match t with
        | .d (.bl true) =>
          dsimp only
          cases he : fe ρ1 m1 with
          | no => exact fun h => by cases h
          | ex _ _ => exact fun h => by cases h
          | ok y m2 =>
            match y with
            | .d y => exact lcL_noex tgt ts fe xs ρ m2 _ e m'
            | .obj _ => exact fun h => by cases h
            | .raw _ => exact fun h => by cases h
        | .d (.bl false) => exact lcL_noex tgt ts fe xs ρ m1 _ e m'
        | .d .non => exact fun h => by cases h
        | .d (.int _) => exact fun h => by cases h
        | .d (.str _) => exact fun h => by cases h
        | .d (.tup _) => exact fun h => by cases h
        | .d (.dct _ _) => exact fun h => by cases h
        | .d (.ins _ _ _) => exact fun h => by cases h
        | .d (.lst _) => exact fun h => by cases h
        | .obj _ => exact fun h => by cases h
        | .raw _ => exact fun h => by cases h
theorem ne_lc {own : List (Str × Nat)} {ts : SE} :
    ∀ {σ H Q}, tNE X W (nLc (own.map (·.2)) fi tgt ts fe) σ H Q → tLc (tI X W fi) (tG X (own.map (·.2)) tgt) (tTe X W0 ts) (tE X W0 fe) (own.map (·.2)) σ H Q := by
  rintro σ H Q ⟨G, ι, ρ, m, g, ev, p⟩
  refine ⟨G, ι, ρ, m, g, ev, ?_⟩
  unfold nLc at p
  cases hr : fi ρ m with
  | no => rw [hr] at p; exact p
  | ex ex m1 => rw [hr] at p; exact p
  | ok xs m1 =>
    rw [hr, Res.bind_ok] at p
    intro J G1 ι1 H1 e1 g1 wk D' hD
    generalize hvs : own.map (·.2) = vs at p ⊢
    obtain ⟨gD, iD⟩ := g1.fresh hD
    have hlen : xs.length ≤ lineL := by
      by_cases h : xs.length ≤ lineL
      · exact h
      · rw [if_neg h] at p; exact p.elim
    rw [if_pos hlen] at p
    have evw : ∀ {G' ι' H'}, Ext G1 ι1 H1 G' ι' H' → EnvR X.kx G' ι' (wipeE ρ vs) (wipe σ vs) := fun e => ((ev.ext e1).ext e).wipe vs
    let Inv0 : Nat → Hp → Prop := fun i H' => ∃ G' ι' m' acc va, Ext G1 ι1 H1 G' ι' H' ∧ GR X.kx G' ι' m' H' ∧ H' D' = some (.lst va) ∧ D' ∉ ι'.flatten ∧ G' D' = none ∧ RepAll X.kx G' va acc ∧ acc.length ≤ i ∧
      (match lcL tgt ts fe (xs.drop i) (wipeE ρ vs) m' acc with
        | .ok ys m2 => lcL tgt ts fe xs (wipeE ρ vs) m1 [] = .ok ys m2
        | _ => False)
    have whole : ∃ ys m2, lcL tgt ts fe xs (wipeE ρ vs) m1 [] = .ok ys m2 := by
      cases hw : lcL tgt ts fe xs (wipeE ρ vs) m1 [] with
      | no => rw [hw] at p; exact p.elim
      | ex ex m2 => exact (lcL_noex _ _ _ _ _ _ _ _ _ hw).elim
      | ok ys m2 => exact ⟨ys, m2, rfl⟩
    obtain ⟨ys, m2, hw⟩ := whole
    rw [hw] at p
    refine ⟨fun i k H' => k = xs.length - i ∧ i ≤ xs.length ∧ Inv0 i H', ⟨xs.length, by simp, Nat.zero_le _, G1, ι1, m1, [], [], ?_, g1.other iD gD _, upd_same, iD, gD, .nil, Nat.le_refl _, ?_⟩, ?_⟩
    · exact ext_other (Ext.refl ..) hD _
    · rw [List.drop_zero, hw]
    rintro i k H2 ⟨rfl, hi, G2, ι2, m3, acc, va, e2, g2, hD2, iD2, gD2, ra, hal, pl⟩
    by_cases hlt : i < xs.length
    · refine .inr ⟨wk.goes i G2 ι2 m3 H2 hlt e2.sub g2, fun H' => Inv0 (i + 1) H', fun H' h => ⟨xs.length - (i + 1), by omega, rfl, hlt, h⟩, fun v H3 y => ?_⟩
      obtain ⟨G3, d, hd, e3, g3, r3⟩ := wk.yields i G2 ι2 m3 H2 v H3 hlt e2.sub g2 y
      obtain ⟨hD3, iD3, gD3⟩ := acc_apart e3 g3 hD2 iD2 gD2
      rw [List.drop_eq_getElem_cons hlt, lcL_cons] at pl
      have hxd : xs[i] = d := by rw [List.getElem?_eq_getElem hlt] at hd; exact Option.some.inj hd
      rw [hxd] at pl
      refine ⟨G3, ι2, wipeE ρ vs, m3, .d d, g3, evw (e2.trans e3), r3, ?_⟩
      cases htg : tgt (.d d) (wipeE ρ vs) with
      | none => rw [htg] at pl; exact pl.elim
      | some ρ1 =>
        rw [htg] at pl
        dsimp only at pl ⊢
        intro σ' ev' off
        refine ⟨wipe_off off, ⟨G3, ι2, ρ1, m3, g3, ev', ?_, ?_⟩⟩
        · intro x m' hx
          rw [hx] at pl
          match x, pl with
          | .d (.bl b), _ => exact ⟨b, rfl⟩
          | .d .non, p => exact p.elim
          | .d (.int _), p => exact p.elim
          | .d (.str _), p => exact p.elim
          | .d (.tup _), p => exact p.elim
          | .d (.dct _ _), p => exact p.elim
          | .d (.ins _ _ _), p => exact p.elim
          | .d (.lst _), p => exact p.elim
          | .obj _, p => exact p.elim
          | .raw _, p => exact p.elim
        · cases hts : ts ρ1 m3 with
          | no => rw [hts] at pl; exact pl.elim
          | ex ex m4 => rw [hts] at pl; exact pl.elim
          | ok t m4 =>
            rw [hts] at pl
            intro bb G4 ι4 H4 e4 g4 hb
            cases (show t = .d (.bl bb) from hb)
            obtain ⟨hD4, iD4, gD4⟩ := acc_apart e4 g4 hD3 iD3 gD3
            cases bb with
            | false =>
              rw [if_neg (by decide)]
              exact ⟨G4, ι4, m4, acc, va, (e2.trans e3).trans e4, g4, hD4, iD4, gD4, RepAll.mono (e3.sub.trans e4.sub) ra, Nat.le_succ_of_le hal, pl⟩
            | true =>
              rw [if_pos rfl]
              dsimp only at pl
              refine ⟨G4, ι4, ρ1, m4, g4, ev'.ext e4, ?_⟩
              cases hfe : fe ρ1 m4 with
              | no => rw [hfe] at pl; exact pl.elim
              | ex ex m5 => rw [hfe] at pl; exact pl.elim
              | ok yv m5 =>
                rw [hfe] at pl
                match yv, pl with
                | .obj _, pl => exact pl.elim
                | .raw _, pl => exact pl.elim
                | .d yd, pl =>
                  intro y5 G5 ι5 H5 e5 g5 r5
                  obtain ⟨hD5, iD5, gD5⟩ := acc_apart e5 g5 hD4 iD4 gD4
                  refine ⟨va, hD5, ?_, G5, ι5, m5, acc ++ [yd], va ++ [y5], ?_, g5.other iD5 gD5 _, upd_same, iD5, gD5, ?_, ?_, pl⟩
                  · have := ra.length
                    rw [← lineL_eq]
                    omega
                  · exact ext_other (((e2.trans e3).trans e4).trans e5) hD _
                  · exact (RepAll.mono ((e3.sub.trans e4.sub).trans e5.sub) ra).append (.cons r5 .nil)
                  · simp; omega
    · have hie : i = xs.length := by omega
      subst hie
      refine .inl ⟨wk.stops G2 ι2 m3 H2 e2.sub g2, ?_⟩
      rw [List.drop_length] at pl
      have pl' : lcL tgt ts fe xs (wipeE ρ vs) m1 [] = .ok acc m3 := pl
      rw [hw] at pl'
      cases pl'
      rw [upd_hid hD2]
      refine p D' va G2 ι2 _ ?_ ?_ hidD_eq ra
      · refine e1.trans ⟨e2.sub, e2.pre, fun a o h hn => ?_, fun a h => ?_, e2.gk⟩
        · rw [hidD_ne (ne_of_none h hD)]
          exact e2.kp a o h hn
        · by_cases z : a = D'
          · subst z; exact hD
          · rw [hidD_ne z] at h; exact e2.dm a h
      · refine ⟨fun a o h => ?_, g2.len, g2.nd, fun i l o hl ho => (g2.obj i l o hl ho).mono (Sub.refl _) fun a ha => ⟨id, ?_⟩⟩
        · rw [hidD_ne (ne_of_none h gD2)]
          exact g2.sub a o h
        · refine hidD_ne ?_
          rintro rfl
          exact iD2 (mem_io hl ha)
/-- a comprehension as a new list -/
theorem ne_lcE {scope : Scope} {own : List (Str × Nat)} {ts : SE} (hc : X.calm = true) (hN : X.N.Nodup) (hi : SIx X W tg iter fi) (ok : BlkOk X.N X.env.scope scope own)
    (hg : ∀ (s : Shared) (H : Hp) (C : Addr) (cl : List (Str × Addr)) (fp : List Addr), STg (X.blk s H scope (compEnvC scope cl C X.env) fp) tg (own.map (·.2)) tgt) (ht : ∀ (s : Shared) (H : Hp) (C : Addr) (cl : List (Str × Addr)) (fp : List Addr), STs (X.blk s H scope (compEnvC scope cl C X.env) fp) ifs ts)
    (he : ∀ (s : Shared) (H : Hp) (C : Addr) (cl : List (Str × Addr)) (fp : List Addr), SEx (X.blk s H scope (compEnvC scope cl C X.env) fp) W0 elt fe) (hs : ∀ x, foldedSetIterable iter X.env x = pure x := by intro _; rfl) :
    NEx X W (.ListComp elt [⟨tg, iter, ifs, 0⟩] scope pos) (nLc (own.map (·.2)) fi tgt ts fe) :=
  ⟨pe_weak (pe_lc hc hN hi.pi ok (fun s H C cl fp => (hg s H C cl fp).pg) (fun s H C cl fp => (ht s H C cl fp).pt) (fun s H C cl fp => (he s H C cl fp).pe) hs) fun σ H Q h => ne_lc h⟩
end
end DI
namespace DI
open PySem PySem.Spec PyProof.Rows L2
section
variable {X : Cx} {W : XK} {a b c e elt tg iter : Expr} {es rest ifs : List Expr} {fa fb fc f fe : SE} {fi : IE} {tgt : Tg} {fs : List SE} {pos p : Pos} {G H : Hp} {ι : Io} {ρ : Env} {m : Mem} {σ : L2.St} {st : Stmt} {sts : List Stmt} {D : Ends}
/-! ### statements -/
def PostS (X : Cx) (W : XK) (D : Ends) (G : Hp) (ι : Io) (H : Hp) (o : Out) : Prop := match o with
  | .nx ρ m => ∀ σ' G' ι' H', Ext G ι H G' ι' H' → GR X.kx G' ι' m H' → EnvR X.kx G' ι' ρ σ' → D.nx σ' H'
  | .bk ρ m => ∀ σ' G' ι' H', Ext G ι H G' ι' H' → GR X.kx G' ι' m H' → EnvR X.kx G' ι' ρ σ' → D.bk σ' H'
  | .ct ρ m => ∀ σ' G' ι' H', Ext G ι H G' ι' H' → GR X.kx G' ι' m H' → EnvR X.kx G' ι' ρ σ' → D.ct σ' H'
  | .rt v m => ∀ x G' ι' H', Ext G ι H G' ι' H' → GR X.kx G' ι' m H' → RepV X.kx G' ι' x v → D.rt x H'
  | .ex e m => ∀ c dx G' ι' H', Ext G ι H G' ι' H' → GR X.kx G' ι' m H' → ExR X.kx G' H' e c dx → W c dx H'
  | .no => False
theorem PostS.ext {G1 H1 : Hp} {ι1 : Io} {o : Out} (e : Ext G ι H G1 ι1 H1) (h : PostS X W D G ι H o) : PostS X W D G1 ι1 H1 o := by
  cases o with
  | nx ρ m => exact fun σ' G' ι' H' x => h σ' G' ι' H' (e.trans x)
  | bk ρ m => exact fun σ' G' ι' H' x => h σ' G' ι' H' (e.trans x)
  | ct ρ m => exact fun σ' G' ι' H' x => h σ' G' ι' H' (e.trans x)
  | rt v m => exact fun σ' G' ι' H' x => h σ' G' ι' H' (e.trans x)
  | ex v m => exact fun c dx G' ι' H' x => h c dx G' ι' H' (e.trans x)
  | no => exact h
def tS (X : Cx) (W : XK) (f : SS) : TS := fun D σ H => ∃ G ι ρ m, GR X.kx G ι m H ∧ EnvR X.kx G ι ρ σ ∧ PostS X W D G ι H (f ρ m)
structure SSt (X : Cx) (W : XK) (st : Stmt) (f : SS) : Prop where
  ps : PS X st (tS X W f)
structure SSs (X : Cx) (W : XK) (sts : List Stmt) (f : SS) : Prop where
  pss : PSs X sts (tS X W f)
/-- what a body's context gives -/
structure CxOk (X : Cx) (W : XK) (k : Nat) : Prop where
  tk : Tk X W
  rm : Room k X.A
  calm : X.calm = true
  nd : X.N.Nodup
theorem CxOk.blk {k : Nat} (c : CxOk X W k) (s : Shared) (H : Hp) (scope : Scope) (cenv : PySem.Env) (fp : List Addr) : CxOk (X.blk s H scope cenv fp) W0 k := ⟨tk0, c.rm, c.calm, c.nd⟩
/-- an expression first -/
theorem run_e {Q : Prop} {k : PV → Mem → Out} (g : GR X.kx G ι m H) (ev : EnvR X.kx G ι ρ σ) (p : PostS X W D G ι H ((f ρ m).run k)) :
    tE X W f σ H fun v H' => ∃ G' ι' m' x, Ext G ι H G' ι' H' ∧ GR X.kx G' ι' m' H' ∧ EnvR X.kx G' ι' ρ σ ∧ RepV X.kx G' ι' v x ∧ PostS X W D G' ι' H' (k x m') := by
  refine ⟨G, ι, ρ, m, g, ev, ?_⟩
  cases hr : f ρ m with
  | no => rw [hr] at p; exact p
  | ex e m1 => rw [hr] at p; exact p
  | ok x m1 =>
    rw [hr] at p
    exact fun v G' ι' H' e g r => ⟨G', ι', m1, x, e, g, ev.ext e, r, PostS.ext e p⟩
theorem run_a {fs : Env → Mem → Res (List PV)} {k : List PV → Mem → Out} (g : GR X.kx G ι m H) (ev : EnvR X.kx G ι ρ σ) (p : PostS X W D G ι H ((fs ρ m).run k)) :
    tA X W fs σ H fun v H' => ∃ G' ι' m' x, Ext G ι H G' ι' H' ∧ GR X.kx G' ι' m' H' ∧ EnvR X.kx G' ι' ρ σ ∧ Paired (RepV X.kx G' ι') v x ∧ PostS X W D G' ι' H' (k x m') := by
  refine ⟨G, ι, ρ, m, g, ev, ?_⟩
  cases hr : fs ρ m with
  | no => rw [hr] at p; exact p
  | ex e m1 => rw [hr] at p; exact p
  | ok x m1 =>
    rw [hr] at p
    exact fun v G' ι' H' e g r => ⟨G', ι', m1, x, e, g, ev.ext e, r, PostS.ext e p⟩
theorem run_t {k : Bool → Mem → Out} (g : GR X.kx G ι m H) (ev : EnvR X.kx G ι ρ σ) (p : PostS X W D G ι H ((f ρ m).run (tstO k))) :
    tTe X W f σ H fun b H' => ∃ G' ι' m', Ext G ι H G' ι' H' ∧ GR X.kx G' ι' m' H' ∧ EnvR X.kx G' ι' ρ σ ∧ PostS X W D G' ι' H' (k b m') := by
  have hb : ∀ x m', f ρ m = .ok x m' → ∃ b, x = .d (.bl b) := by
    intro x m' hx
    rw [hx] at p
    match x, p with
    | .d (.bl b), _ => exact ⟨b, rfl⟩
    | .d .non, p => exact p.elim
    | .d (.int _), p => exact p.elim
    | .d (.str _), p => exact p.elim
    | .d (.tup _), p => exact p.elim
    | .d (.dct _ _), p => exact p.elim
    | .d (.ins _ _ _), p => exact p.elim
    | .d (.lst _), p => exact p.elim
    | .obj _, p => exact p.elim
    | .raw _, p => exact p.elim
  refine ⟨G, ι, ρ, m, g, ev, hb, ?_⟩
  cases hr : f ρ m with
  | no => rw [hr] at p; exact p
  | ex e m1 => rw [hr] at p; exact p
  | ok x m1 =>
    obtain ⟨b, rfl⟩ := hb x m1 hr
    rw [hr] at p
    intro b' G' ι' H' e g r
    cases r
    exact ⟨G', ι', m1, e, g, ev.ext e, PostS.ext e p⟩
theorem ss_nil : SSs X W [] sNil := ⟨pss_weak pss_nil fun D σ H ⟨G, ι, ρ, m, g, ev, p⟩ => p σ G ι H (Ext.refl ..) g ev⟩
theorem ss_one {s : SS} (h : SSt X W st s) : SSs X W [st] s := ⟨pss_one h.ps⟩
theorem ss_cons {s t : SS} (h : SSt X W st s) (h2 : SSs X W sts t) : SSs X W (st :: sts) (sSeq s t) := by
  refine ⟨pss_weak (pss_cons h.ps h2.pss) fun D σ H ⟨G, ι, ρ, m, g, ev, p⟩ => ⟨G, ι, ρ, m, g, ev, ?_⟩⟩
  unfold sSeq at p
  cases hr : s ρ m with
  | nx ρ1 m1 =>
    rw [hr] at p
    exact fun σ' G' ι' H' e g' ev' => ⟨G', ι', ρ1, m1, g', ev', p.ext e⟩
  | bk ρ1 m1 => rw [hr] at p; exact p
  | ct ρ1 m1 => rw [hr] at p; exact p
  | rt v m1 => rw [hr] at p; exact p
  | ex v m1 => rw [hr] at p; exact p
  | no => rw [hr] at p; exact p
theorem ss_pass : SSt X W (.Pass pos) sPass := ⟨ps_weak ps_pass fun D σ H ⟨G, ι, ρ, m, g, ev, p⟩ => p σ G ι H (Ext.refl ..) g ev⟩
theorem ss_brk : SSt X W (.Break pos) sBrk := ⟨ps_weak ps_break fun D σ H ⟨G, ι, ρ, m, g, ev, p⟩ => p σ G ι H (Ext.refl ..) g ev⟩
theorem ss_cnt : SSt X W (.Continue pos) sCnt := ⟨ps_weak ps_continue fun D σ H ⟨G, ι, ρ, m, g, ev, p⟩ => p σ G ι H (Ext.refl ..) g ev⟩
theorem ss_expr (h : SEx X W e f) (hs : swapsWith e none pos.line X.env = pure false := by rfl) : SSt X W (.Expr e pos) (sExpr f) := by
  refine ⟨ps_weak (ps_expr h.pe hs) fun D σ H ⟨G, ι, ρ, m, g, ev, p⟩ => ?_⟩
  exact tE_mono (run_e (Q := True) g ev p) fun v H' ⟨G', ι', m', x, _, g', ev', _, q⟩ => q σ G' ι' H' (Ext.refl ..) g' ev'
theorem ss_ret (h : SEx X W e f) : SSt X W (.Return (some e) pos) (sRet f) := by
  refine ⟨ps_weak (ps_ret h.pe) fun D σ H ⟨G, ι, ρ, m, g, ev, p⟩ => ?_⟩
  exact tE_mono (run_e (Q := True) g ev p) fun v H' ⟨G', ι', m', x, _, g', ev', r, q⟩ => q v G' ι' H' (Ext.refl ..) g' r
theorem ss_retN : SSt X W (.Return none pos) sRetN := ⟨ps_weak ps_retN fun D σ H ⟨G, ι, ρ, m, g, ev, p⟩ => p .non G ι H (Ext.refl ..) g .non⟩
theorem ss_if {sa sb : List Stmt} {s t : SS} (hc : STe X W c fc) (ha : SSs X W sa s) (hb : SSs X W sb t) : SSt X W (.If c sa sb pos) (sIf fc s t) := by
  refine ⟨ps_weak (ps_if hc.pt ha.pss hb.pss) fun D σ H ⟨G, ι, ρ, m, g, ev, p⟩ => ?_⟩
  refine tTe_mono (run_t g ev p) fun k H1 ⟨G1, ι1, m1, x1, g1, ev1, p1⟩ => ?_
  cases k with
  | true => rw [if_pos rfl] at p1 ⊢; exact ⟨G1, ι1, ρ, m1, g1, ev1, p1⟩
  | false => rw [if_neg (by decide)] at p1 ⊢; exact ⟨G1, ι1, ρ, m1, g1, ev1, p1⟩
theorem asg_post {is : List Nat} {te : TE} (h : te σ H fun v H' => ∃ G ι m x, GR X.kx G ι m H' ∧ EnvR X.kx G ι ρ σ ∧ RepV X.kx G ι v x ∧ PostS X W D G ι H' (match tgt x ρ with
    | some ρ1 => .nx ρ1 m
    | none => .no)) (mono : ∀ {Q Q' : VK}, te σ H Q → (∀ v H', Q v H' → Q' v H') → te σ H Q') : tAsg te (tG X is tgt) D σ H := by
  refine mono h fun v H' ⟨G, ι, m, x, g, ev, r, p⟩ => ⟨G, ι, ρ, m, x, g, ev, r, ?_⟩
  cases ht : tgt x ρ with
  | none => rw [ht] at p; exact p
  | some ρ1 => rw [ht] at p; exact fun σ' e _ => p σ' G ι H' (Ext.refl ..) g e
theorem ss_asg {is : List Nat} (hg : STg X tg is tgt) (h : SEx X W e f) (hs : swapsWithSole [tg] e pos.line X.env = pure false := by rfl) (hw : swappedStores [tg] e X.env = pure none := by rfl)
    (h1 : (assignEach [tg] X.env).map (·.2) = [assign tg X.env] := by rfl) : SSt X W (.Assign [tg] e pos) (sAsg tgt f) := by
  refine ⟨ps_weak (ps_asg h.pe hg.pg hs hw h1) fun D σ H ⟨G, ι, ρ, m, g, ev, p⟩ => ?_⟩
  refine asg_post (ρ := ρ) (tE_mono (run_e (Q := True) g ev p) fun v H' ⟨G', ι', m', x, _, g', ev', r, q⟩ => ⟨G', ι', m', x, g', ev', r, q⟩) tE_mono
/-- name = [..], in one row -/
theorem ss_asgLc {i : Nat} {y : Str} {py spos : Pos} {scope : Scope} {own : List (Str × Nat)} {ts : SE} (hc : X.calm = true) (hN : X.N.Nodup) (hi : SIx X W tg iter fi) (ok : BlkOk X.N X.env.scope scope own)
    (hg : ∀ (s : Shared) (H : Hp) (C : Addr) (cl : List (Str × Addr)) (fp : List Addr), STg (X.blk s H scope (compEnvC scope cl C X.env) fp) tg (own.map (·.2)) tgt) (ht : ∀ (s : Shared) (H : Hp) (C : Addr) (cl : List (Str × Addr)) (fp : List Addr), STs (X.blk s H scope (compEnvC scope cl C X.env) fp) ifs ts)
    (he : ∀ (s : Shared) (H : Hp) (C : Addr) (cl : List (Str × Addr)) (fp : List Addr), SEx (X.blk s H scope (compEnvC scope cl C X.env) fp) W0 elt fe)
    (hsw : swapsWith (.ListComp elt [⟨tg, iter, ifs, 0⟩] scope pos) (some (.Name y py)) spos.line X.env = pure true) (hyl : X.env.scope.names.lookup y = some .local := by rfl) (hy : X.N[i]? = some y := by rfl) (hs : ∀ x, foldedSetIterable iter X.env x = pure x := by intro _; rfl) :
    SSt X W (.Assign [.Name y py] (.ListComp elt [⟨tg, iter, ifs, 0⟩] scope pos) spos) (sAsg (tN i) (eFz (nLc (own.map (·.2)) fi tgt ts fe))) := by
  refine ⟨ps_weak (ps_setLc (g := tG X (List.map (fun (x : Str × Nat) => x.2) own) tgt) (tt := tTe X W0 ts) (te := tE X W0 fe) hc hN hy hyl hsw hi.pi ok (fun s H C cl fp => (hg s H C cl fp).pg) (fun s H C cl fp => (ht s H C cl fp).pt) (fun s H C cl fp => (he s H C cl fp).pe) hs) fun D σ H ⟨G, ι, ρ, m, g, ev, p⟩ => ?_⟩
  refine ne_lc (fe := fe) ⟨G, ι, ρ, m, g, ev, ?_⟩
  unfold sAsg eFz at p
  cases hr : nLc (own.map (·.2)) fi tgt ts fe ρ m with
  | no => rw [hr] at p; exact p
  | ex e m1 => rw [hr] at p; exact p
  | ok xs m1 =>
    rw [hr] at p
    intro q vs G' ι' H' e g' hq r
    obtain ⟨g2, e2⟩ := g'.lay hq (.lst vs)
    have q2 : PostS X W D G ι H (.nx (ρ.set i (some (.d (.lst xs)))) m1) := p
    exact q2 _ _ _ _ (e.trans e2) g2 (((ev.ext e).ext e2).set (x := .d (.lst xs)) (.lst (SqL.of upd_same) (RepAll.mono e2.sub r)) i)
theorem ss_asgLcN {i : Nat} {y : Str} {py spos : Pos} {scope : Scope} {own : List (Str × Nat)} {ts : SE} (hc : X.calm = true) (hN : X.N.Nodup) (hi : SIx X W tg iter fi) (ok : BlkOk X.N X.env.scope scope own)
    (hg : ∀ (s : Shared) (H : Hp) (C : Addr) (cl : List (Str × Addr)) (fp : List Addr), STg (X.blk s H scope (compEnvC scope cl C X.env) fp) tg (own.map (·.2)) tgt) (ht : ∀ (s : Shared) (H : Hp) (C : Addr) (cl : List (Str × Addr)) (fp : List Addr), STs (X.blk s H scope (compEnvC scope cl C X.env) fp) ifs ts)
    (he : ∀ (s : Shared) (H : Hp) (C : Addr) (cl : List (Str × Addr)) (fp : List Addr), SEx (X.blk s H scope (compEnvC scope cl C X.env) fp) W0 elt fe)
    (hsw : swapsWith (.ListComp elt [⟨tg, iter, ifs, 0⟩] scope pos) (some (.Name y py)) spos.line X.env = pure true) (hyl : X.env.scope.names.lookup y = some .local := by rfl) (hy : X.N[i]? = some y := by rfl) (hs : ∀ x, foldedSetIterable iter X.env x = pure x := by intro _; rfl) :
    SSt X W (.Assign [.Name y py] (.ListComp elt [⟨tg, iter, ifs, 0⟩] scope pos) spos) (sAsg (tN i) (eNw (nLc (own.map (·.2)) fi tgt ts fe))) := by
  refine ⟨ps_weak (ps_setLc (g := tG X (List.map (fun (x : Str × Nat) => x.2) own) tgt) (tt := tTe X W0 ts) (te := tE X W0 fe) hc hN hy hyl hsw hi.pi ok (fun s H C cl fp => (hg s H C cl fp).pg) (fun s H C cl fp => (ht s H C cl fp).pt) (fun s H C cl fp => (he s H C cl fp).pe) hs) fun D σ H ⟨G, ι, ρ, m, g, ev, p⟩ => ?_⟩
  refine ne_lc (fe := fe) ⟨G, ι, ρ, m, g, ev, ?_⟩
  unfold sAsg eNw at p
  cases hr : nLc (own.map (·.2)) fi tgt ts fe ρ m with
  | no => rw [hr] at p; exact p
  | ex e m1 => rw [hr] at p; exact p
  | ok xs m1 =>
    rw [hr] at p
    intro q vs G' ι' H' e g' hq r
    obtain ⟨g2, e2⟩ := g'.alloc hq r
    have q2 : PostS X W D G ι H (.nx (ρ.set i (some (.obj m1.length))) (m1 ++ [.l1 xs])) := p
    refine q2 _ _ _ _ (e.trans e2) g2 (((ev.ext e).ext e2).set (x := .obj m1.length) ⟨q, [], ?_, rfl⟩ i)
    rw [← g'.len, List.getElem?_append_right (Nat.le_refl _)]
    simp
/-! a, b = x, y -/
theorem setPV2 {i j : Nat} {xs : List PV} {ρ' : Env} (h : setPV [i, j] xs ρ = some ρ') : ∃ x y, xs = [x, y] ∧ ρ' = (ρ.set i (some x)).set j (some y) := by
  match xs, h with
  | [x, y], h => cases h; exact ⟨x, y, rfl, rfl⟩
  | [], h => cases h
  | [_], h => cases h
  | _ :: _ :: _ :: _, h => cases h
theorem setPV3 {i j k : Nat} {xs : List PV} {ρ' : Env} (h : setPV [i, j, k] xs ρ = some ρ') : ∃ x y z, xs = [x, y, z] ∧ ρ' = ((ρ.set i (some x)).set j (some y)).set k (some z) := by
  match xs, h with
  | [x, y, z], h => cases h; exact ⟨x, y, z, rfl, rfl⟩
  | [], h => cases h
  | [_], h => cases h
  | [_, _], h => cases h
  | _ :: _ :: _ :: _ :: _, h => cases h
theorem ss_par2 (i j : Nat) {x y : Str} {px py pt : Pos} {kt k2 pt2} (hc : X.calm = true) (hN : X.N.Nodup) (ha : SAr X W [a, b] fs) (hw : swappedStores [.Tuple [.Name x px, .Name y py] kt pt] (.Tuple [a, b] k2 pt2) X.env = pure (some [x, y]))
    (hi : X.N[i]? = some x := by rfl) (hj : X.N[j]? = some y := by rfl) (hij : i ≠ j := by decide) (hx : X.env.scope.names.lookup x = some .local := by rfl) (hy : X.env.scope.names.lookup y = some .local := by rfl)
    (hs : swapsWithSole [.Tuple [.Name x px, .Name y py] kt pt] (.Tuple [a, b] k2 pt2) pos.line X.env = pure false := by rfl) :
    SSt X W (.Assign [.Tuple [.Name x px, .Name y py] kt pt] (.Tuple [a, b] k2 pt2) pos) (sPar [i, j] fs) := by
  refine ⟨ps_weak (ps_par hc hN hi hj hij hx hy ha.pa hw hs) fun D σ H ⟨G, ι, ρ, m, g, ev, p⟩ => ?_⟩
  refine tA_mono (run_a g ev p) fun vs H' ⟨G', ι', m', xs, _, g', ev', r, q⟩ => ?_
  cases hp : setPV [i, j] xs ρ with
  | none => rw [hp] at q; exact q.elim
  | some ρ1 =>
    rw [hp] at q
    obtain ⟨x, y, rfl, rfl⟩ := setPV2 hp
    cases r with
    | cons r1 r =>
      cases r with
      | cons r2 r =>
        cases r
        exact ⟨_, _, rfl, q _ G' ι' H' (Ext.refl ..) g' ((ev'.set r1 i).set r2 j)⟩
theorem ss_par3 (i j l : Nat) {x y z : Str} {px py pz pt : Pos} {kt k2 pt2} (hc : X.calm = true) (hN : X.N.Nodup) (ha : SAr X W [a, b, c] fs) (hw : swappedStores [.Tuple [.Name x px, .Name y py, .Name z pz] kt pt] (.Tuple [a, b, c] k2 pt2) X.env = pure (some [x, y, z]))
    (hi : X.N[i]? = some x := by rfl) (hj : X.N[j]? = some y := by rfl) (hl : X.N[l]? = some z := by rfl) (hij : i ≠ j := by decide) (hil : i ≠ l := by decide) (hjl : j ≠ l := by decide)
    (hx : X.env.scope.names.lookup x = some .local := by rfl) (hy : X.env.scope.names.lookup y = some .local := by rfl) (hz : X.env.scope.names.lookup z = some .local := by rfl)
    (hs : swapsWithSole [.Tuple [.Name x px, .Name y py, .Name z pz] kt pt] (.Tuple [a, b, c] k2 pt2) pos.line X.env = pure false := by rfl) :
    SSt X W (.Assign [.Tuple [.Name x px, .Name y py, .Name z pz] kt pt] (.Tuple [a, b, c] k2 pt2) pos) (sPar [i, j, l] fs) := by
  refine ⟨ps_weak (ps_par3 hc hN hi hj hl hij hil hjl hx hy hz ha.pa hw hs) fun D σ H ⟨G, ι, ρ, m, g, ev, p⟩ => ?_⟩
  refine tA_mono (run_a g ev p) fun vs H' ⟨G', ι', m', xs, _, g', ev', r, q⟩ => ?_
  cases hp : setPV [i, j, l] xs ρ with
  | none => rw [hp] at q; exact q.elim
  | some ρ1 =>
    rw [hp] at q
    obtain ⟨x, y, z, rfl, rfl⟩ := setPV3 hp
    cases r with
    | cons r1 r =>
      cases r with
      | cons r2 r =>
        cases r with
        | cons r3 r =>
          cases r
          exact ⟨_, _, _, rfl, q _ G' ι' H' (Ext.refl ..) g' (((ev'.set r1 i).set r2 j).set r3 l)⟩
/-- .. by a tuple that is made -/
def tGp (X : Cx) (js : List Nat) : TGs := fun vs σ H Q => ∃ G ι ρ m xs, GR X.kx G ι m H ∧ EnvR X.kx G ι ρ σ ∧ Paired (RepV X.kx G ι) vs xs ∧ match setPV js xs ρ with
  | some ρ' => ∀ σ', EnvR X.kx G ι ρ' σ' → Q σ' H
  | none => False
structure STp (X : Cx) (es : List Expr) (js : List Nat) : Prop where
  pg : PGs X es (tGp X js)
theorem tp_nil : STp X [] [] := by
  refine ⟨pgs_weak pgs_nil fun vs σ H Q ⟨G, ι, ρ, m, xs, g, ev, r, q⟩ => ?_⟩
  cases r with
  | nil => exact ⟨rfl, q σ ev⟩
  | cons _ _ => exact q.elim
theorem tp_cons (i : Nat) {x : Str} {js : List Nat} (hN : X.N.Nodup) (h : STp X es js) (hx : Loc X.env.scope x := by first | exact Or.inl rfl | exact Or.inr rfl) (hi : X.N[i]? = some x := by rfl) (hf : X.fn x = true ∨ X.env.scope.names.lookup x = some .local := by first | exact .inl rfl | exact .inr rfl | assumption)
    (hs : (assignEach (.Name x pos :: es) X.env).map (·.2) = assign (.Name x pos) X.env :: (assignEach es X.env).map (·.2) := by rfl) : STp X (.Name x pos :: es) (i :: js) := by
  refine ⟨pgs_weak (pgs_cons (pg_name hN hi hx hf) h.pg hs) fun vs σ H Q ⟨G, ι, ρ, m, xs, g, ev, r, q⟩ => ?_⟩
  cases r with
  | nil => exact q.elim
  | @cons v d vs ds r t => exact ⟨v, vs, rfl, ⟨G, ι, ρ.set i (some d), m, ds, g, ev.set r i, t, q⟩⟩
theorem setPV_len : ∀ {js : List Nat} {xs : List PV} {ρ ρ' : Env}, setPV js xs ρ = some ρ' → xs.length = js.length
  | [], [], _, _, _ => rfl
  | [], _ :: _, _, _, h => by cases h
  | _ :: _, [], _, _, h => by cases h
  | _ :: js, _ :: xs, ρ, ρ', h => by simp [setPV_len (js := js) (xs := xs) h]
theorem ss_parT {ts : List Expr} {js : List Nat} {kt k2 n : Nat} {pt pt2 : Pos} (hc : X.calm = true) (ha : SAr X W es fs) (hg : STp X ts js) (hl : js.length = n := by rfl) (hn : (assignEach ts X.env).length = n := by rfl) (hst : (assignEach ts X.env).findIdx? (·.1) = none := by rfl) (hsm : js.length ≤ 1000 := by decide)
    (hs : swapsWithSole [.Tuple ts kt pt] (.Tuple es k2 pt2) pos.line X.env = pure false := by rfl) (hw : swappedStores [.Tuple ts kt pt] (.Tuple es k2 pt2) X.env = pure none := by rfl)
    (h1 : (assignEach [.Tuple ts kt pt] X.env).map (·.2) = [assign (.Tuple ts kt pt) X.env] := by rfl) : SSt X W (.Assign [.Tuple ts kt pt] (.Tuple es k2 pt2) pos) (sPar js fs) := by
  refine ⟨ps_weak (ps_asg (pe_tup ha.pa) (pg_tup hc hg.pg hn hst) hs hw h1) fun D σ H ⟨G, ι, ρ, m, g, ev, p⟩ => ?_⟩
  refine tA_mono (run_a g ev p) fun vs H' ⟨G', ι', m', xs, _, g', ev', r, q⟩ => ?_
  cases hp : setPV js xs ρ with
  | none => rw [hp] at q; exact q.elim
  | some ρ1 =>
    rw [hp] at q
    have hlen := setPV_len hp
    have hvl := paired_len r
    refine ⟨by rw [sizeLine_eq]; omega, fun t ht => ?_⟩
    obtain ⟨g1, g2⟩ := g'.fresh ht
    refine ⟨t, vs, rfl, SqT.of upd_same, by rw [hvl, hlen, hl], ?_⟩
    refine ⟨G', ι', ρ, m', xs, g'.other g2 g1 _, ev', r, ?_⟩
    rw [hp]
    exact fun σ' e => q σ' G' ι' _ (ext_other (Ext.refl ..) ht _) (g'.other g2 g1 _) e
/-! x op= e -/
theorem ss_aug (i : Nat) {x : Str} {op : Operator} {f2 : DI.D → DI.D → Option DI.D} {r : R2} {pos' : Pos} (ho : OpR X (inplaceOp op) r) (hf : Op2 X f2 r) (hN : X.N.Nodup) (h : SEx X W e f) (hx : Loc X.env.scope x := by first | exact Or.inl rfl | exact Or.inr rfl) (hi : X.N[i]? = some x := by rfl)
    (hfn : X.fn x = true ∨ X.env.scope.names.lookup x = some .local := by first | exact .inl rfl | exact .inr rfl | assumption) : SSt X W (.AugAssign (.Name x pos') op e pos) (sAug i f2 f) := by
  refine ⟨ps_weak (ps_aug hN hi hx h.pe (fun pins s σ H x y v u Q I rx ry q => ho pins s σ H x y v u Q I rx ry q) hfn) fun D σ H ⟨G, ι, ρ, m, g, ev, p⟩ => ?_⟩
  unfold sAug at p
  cases h1 : ρ[i]? with
  | none => rw [h1] at p; exact p.elim
  | some o =>
    match o, h1 with
    | none, h1 => rw [h1] at p; exact p.elim
    | some (.obj _), h1 => rw [h1] at p; exact p.elim
    | some (.raw _), h1 => rw [h1] at p; exact p.elim
    | some (.d x), h1 =>
      rw [h1] at p
      obtain ⟨v, hv, rv⟩ := ev.2 i _ h1
      refine ⟨v, hv, tE_mono (run_e (Q := True) g ev p) fun u H' ⟨G', ι', m', y, x1, g', ev', r, q⟩ => ?_⟩
      cases hy : vw m' y with
      | none => rw [hy] at q; exact q.elim
      | some dy =>
        rw [hy] at q
        cases hd : f2 x dy with
        | none => rw [show (some dy).bind (f2 x) = f2 x dy from rfl, hd] at q; exact q.elim
        | some d =>
          rw [show (some dy).bind (f2 x) = f2 x dy from rfl, hd] at q
          have rv' : RepV X.kx G' ι' v (.d x) := rv.ext x1
          exact hf g' (rv'.view g' rfl) (r.view g' hy) hd fun w G2 H2 e2 g2 r2 => q _ _ _ _ e2 g2 ((ev'.ext e2).set (x := .d d) r2 i)
/-! ### loops -/
theorem forL_cons (tgt : Tg) (s : SS) (x : DI.D) (xs : List DI.D) (ρ : Env) (m : Mem) : forL tgt s (x :: xs) ρ m = match tgt (.d x) ρ with
    | none => .no
    | some ρ1 => match s ρ1 m with
      | .nx ρ2 m2 => forL tgt s xs ρ2 m2
      | .ct ρ2 m2 => forL tgt s xs ρ2 m2
      | .bk ρ2 m2 => .nx ρ2 m2
      | o => o := rfl
theorem ss_for {is : List Nat} {body : List Stmt} {s : SS} (hp : PassesOwn (model X.prog X.w) X.A X.env X.xe) (hc : X.calm = true) (hi : SIx X W tg iter fi) (hg : STg X tg is tgt) (hb : SSs X W body s) (hs : ∀ x, foldedSetIterable iter X.env x = pure x := by intro _; rfl) :
    SSt X W (.For tg iter body [] pos) (sFor tgt fi s) := by
  refine ⟨ps_weak (ps_for hp hc hi.pi hg.pg hb.pss hs) fun D σ H ⟨G, ι, ρ, m, g, ev, p⟩ => ⟨G, ι, ρ, m, g, ev, ?_⟩⟩
  unfold sFor at p
  cases hr : fi ρ m with
  | no => rw [hr] at p; exact p
  | ex e m1 => rw [hr] at p; exact p
  | ok xs m1 =>
    rw [hr] at p
    intro J G1 ι1 H1 e1 g1 wk
    have p1 : PostS X W D G1 ι1 H1 (forL tgt s xs ρ m1) := PostS.ext e1 p
    refine ⟨fun i k σ' H' => k = xs.length - i ∧ i ≤ xs.length ∧ ∃ G' ι' ρ' m', Sub G1 G' ∧ GR X.kx G' ι' m' H' ∧ EnvR X.kx G' ι' ρ' σ' ∧ PostS X W D G' ι' H' (forL tgt s (xs.drop i) ρ' m'), ⟨xs.length, by simp, Nat.zero_le _, G1, ι1, ρ, m1, Sub.refl _, g1, ev.ext e1, by simpa using p1⟩, ?_⟩
    rintro i k σ2 H2 ⟨rfl, hi, G2, ι2, ρ2, m2, s2, g2, ev2, p2⟩
    by_cases hlt : i < xs.length
    · refine .inr ⟨wk.goes i G2 ι2 m2 H2 hlt s2 g2, fun σ' H' => ∃ G' ι' ρ' m', Sub G1 G' ∧ GR X.kx G' ι' m' H' ∧ EnvR X.kx G' ι' ρ' σ' ∧ PostS X W D G' ι' H' (forL tgt s (xs.drop (i + 1)) ρ' m'), fun σ' H' h => ⟨xs.length - (i + 1), by omega, rfl, hlt, h⟩, fun v H3 y => ?_⟩
      obtain ⟨G3, d, hd, e3, g3, r3⟩ := wk.yields i G2 ι2 m2 H2 v H3 hlt s2 g2 y
      have hxd : xs[i] = d := by rw [List.getElem?_eq_getElem hlt] at hd; exact Option.some.inj hd
      rw [List.drop_eq_getElem_cons hlt, hxd, forL_cons] at p2
      refine ⟨G3, ι2, ρ2, m2, .d d, g3, ev2.ext e3, r3, ?_⟩
      cases ht : tgt (.d d) ρ2 with
      | none => rw [ht] at p2; exact p2.elim
      | some ρ3 =>
        rw [ht] at p2
        intro σ3 ev3 _
        refine ⟨G3, ι2, ρ3, m2, g3, ev3, ?_⟩
        have p3 := PostS.ext e3 p2
        dsimp only at p3
        cases hb : s ρ3 m2 with
        | no => rw [hb] at p3; exact p3
        | ex v4 m4 => rw [hb] at p3; exact p3
        | rt v4 m4 => rw [hb] at p3; exact p3
        | bk ρ4 m4 => rw [hb] at p3; exact p3
        | nx ρ4 m4 =>
          rw [hb] at p3
          exact fun σ' G' ι' H' e g ev => ⟨G', ι', ρ4, m4, (s2.trans e3.sub).trans e.sub, g, ev, PostS.ext e p3⟩
        | ct ρ4 m4 =>
          rw [hb] at p3
          exact fun σ' G' ι' H' e g ev => ⟨G', ι', ρ4, m4, (s2.trans e3.sub).trans e.sub, g, ev, PostS.ext e p3⟩
    · have hie : i = xs.length := by omega
      subst hie
      rw [List.drop_length] at p2
      exact .inl ⟨wk.stops G2 ι2 m2 H2 s2 g2, p2 σ2 G2 ι2 H2 (Ext.refl ..) g2 ev2⟩
theorem whL_succ (c : SE) (b : SS) (n : Nat) (ρ : Env) (m : Mem) : whL c b (n + 1) ρ m = (c ρ m).run (tstO fun t m => if t = true then (match b ρ m with
      | .nx ρ2 m2 => whL c b n ρ2 m2
      | .ct ρ2 m2 => whL c b n ρ2 m2
      | .bk ρ2 m2 => .nx ρ2 m2
      | o => o) else .nx ρ m) := rfl
theorem ss_while (n : Nat) {body : List Stmt} {s : SS} (hp : PassesOwn (model X.prog X.w) X.A X.env X.xe) (hc : STe X W c fc) (hb : SSs X W body s) : SSt X W (.While c body [] pos) (whL fc s n) := by
  refine ⟨ps_weak (ps_while hp hc.pt hb.pss) fun D σ H ⟨G, ι, ρ, m, g, ev, p⟩ => ?_⟩
  refine ⟨fun k σ' H' => ∃ G' ι' ρ' m', GR X.kx G' ι' m' H' ∧ EnvR X.kx G' ι' ρ' σ' ∧ PostS X W D G' ι' H' (whL fc s k ρ' m'), ⟨n, G, ι, ρ, m, g, ev, p⟩, ?_⟩
  rintro k σ2 H2 ⟨G2, ι2, ρ2, m2, g2, ev2, p2⟩
  cases k with
  | zero => exact p2.elim
  | succ k =>
    rw [whL_succ] at p2
    refine tTe_mono (run_t g2 ev2 p2) fun b H3 ⟨G3, ι3, m3, e3, g3, ev3, p3⟩ => ?_
    cases b with
    | false => rw [if_neg (by decide)] at p3 ⊢; exact p3 σ2 G3 ι3 H3 (Ext.refl ..) g3 ev3
    | true =>
      rw [if_pos rfl] at p3 ⊢
      refine ⟨fun σ' H' => ∃ G' ι' ρ' m', GR X.kx G' ι' m' H' ∧ EnvR X.kx G' ι' ρ' σ' ∧ PostS X W D G' ι' H' (whL fc s k ρ' m'), fun σ' H' h => ⟨k, Nat.lt_succ_self k, h⟩, G3, ι3, ρ2, m3, g3, ev3, ?_⟩
      cases hb : s ρ2 m3 with
      | no => rw [hb] at p3; exact p3
      | ex v4 m4 => rw [hb] at p3; exact p3
      | rt v4 m4 => rw [hb] at p3; exact p3
      | bk ρ4 m4 => rw [hb] at p3; exact p3
      | nx ρ4 m4 => rw [hb] at p3; exact fun σ' G' ι' H' e g ev => ⟨G', ι', ρ4, m4, g, ev, PostS.ext e p3⟩
      | ct ρ4 m4 => rw [hb] at p3; exact fun σ' G' ι' H' e g ev => ⟨G', ι', ρ4, m4, g, ev, PostS.ext e p3⟩
end
end DI
namespace DI
open PySem PySem.Spec PyProof.Rows L2
section
variable {X : Cx} {W : XK} {a b c e elt tg iter : Expr} {es rest ifs : List Expr} {fa fb fc f fe fk : SE} {fi : IE} {tgt : Tg} {fs : List SE} {pos p : Pos} {G H : Hp} {ι : Io} {ρ : Env} {m : Mem} {σ : L2.St} {st : Stmt} {sts : List Stmt} {Dn : Ends}
/-! ### objects changed -/
theorem GR.write {K : Kx} (g : GR K G ι m H) {i : Nat} {q : Addr} {l : List Addr} {xs : List DI.D} (hi : ι[i]? = some (q :: l)) (hm : m[i]? = some (.l1 xs)) {vs : List V} {ys : List DI.D} (r : RepAll K G vs ys) :
    GR K G ι (m.set i (.l1 ys)) (upd H q (.lst vs)) ∧ Ext G ι H G ι (upd H q (.lst vs)) := by
  obtain ⟨a, ws, ea, g0, h0, r0⟩ := g.obj i _ _ hi hm
  cases ea
  have hq : q ∈ ι.flatten := mem_io hi (by simp)
  have apart : ∀ (j : Nat) (l' : List Addr), j ≠ i → ι[j]? = some l' → q ∉ l' := by
    intro j l' hj hl hq'
    have nd := g.nd
    have key : ∀ (L : Io) (i j : Nat) (l l' : List Addr), L.flatten.Nodup → L[i]? = some l → L[j]? = some l' → j ≠ i → q ∈ l → q ∈ l' → False := by
      intro L
      induction L with
      | nil => intro i j l l' _ h; simp at h
      | cons x L ih =>
        intro i j l l' nd hi hj hne h1 h2
        rw [List.flatten_cons, List.nodup_append] at nd
        cases i with
        | zero =>
          cases j with
          | zero => exact hne rfl
          | succ j =>
            simp at hi hj
            subst hi
            exact nd.2.2 q h1 q (mem_io hj h2) rfl
        | succ i =>
          cases j with
          | zero =>
            simp at hi hj
            subst hj
            exact nd.2.2 q h2 q (mem_io hi h1) rfl
          | succ j =>
            simp at hi hj
            exact ih i j l l' nd.2.1 hi hj (fun e => hne (by rw [e])) h1 h2
    exact key ι i j _ l' nd hi hl hj (by simp) hq'
  refine ⟨⟨sub_updR g.sub g0, by simp [g.len], g.nd, fun j l' o hl ho => ?_⟩, Sub.refl G, ⟨[], by simp, by simp⟩, fun x o h hn => ?_, fun x h => ?_, fun x o h => .inl h⟩
  · by_cases hj : j = i
    · subst hj
      rw [hi] at hl
      cases hl
      rw [List.getElem?_set_self (List.getElem?_eq_some_iff.mp hm).1] at ho
      cases ho
      exact ⟨q, vs, rfl, g0, upd_same, r⟩
    · rw [List.getElem?_set_ne (Ne.symm hj)] at ho
      refine (g.obj j l' o hl ho).mono (Sub.refl G) fun x hx => ⟨id, ?_⟩
      rw [upd_ne]
      rintro rfl
      exact apart j l' hj hl hx
  · rw [upd_ne]
    · exact h
    · rintro rfl
      exact hn hq
  · by_cases z : x = q
    · subst z; rw [upd_same] at h; cases h
    · rw [upd_ne z] at h; exact h
/-- the list of an object is read -/
theorem GR.objL {K : Kx} (g : GR K G ι m H) {i : Nat} {q : Addr} {l : List Addr} {xs : List DI.D} (hi : ι[i]? = some (q :: l)) (hm : m[i]? = some (.l1 xs)) : ∃ vs, H q = some (.lst vs) := by
  obtain ⟨a, vs, ea, _, h1, _⟩ := g.obj i _ _ hi hm
  cases ea
  exact ⟨vs, h1⟩
/-- an object that is a list now -/
theorem isL1 {o : Option MO} {k : Out} {Dn : Ends} (p : PostS X W Dn G ι H (match o with
    | some (.l1 _) => k
    | _ => .no)) : ∃ xs, o = some (.l1 xs) ∧ PostS X W Dn G ι H k := by
  match o, p with
  | some (.l1 xs), p => exact ⟨xs, rfl, p⟩
  | some (.fz _), p => exact p.elim
  | some (.tab _ _), p => exact p.elim
  | some (.l2 _), p => exact p.elim
  | none, p => exact p.elim
theorem ss_app {apos cpos : Pos} (ha : SEx X W a fa) (he : SEx X W e fe) (hbase : attributeBase a "append" X.env (eval a X.env) = eval a X.env := by rfl)
    (hfew : ((backTo cpos (starEach (e :: []) X.env)).all (fun x => !x.1) && (backToKw cpos (keywordEach [] X.env)).all (fun x => x.1.isSome)
      && decide ((e :: []).length + ([] : List Keyword).length + (if ([] : List Keyword).isEmpty then 0 else 1) < 30)) = true := by rfl)
    (hline : (apos.endLine == cpos.line) = true := by rfl) (hs : starEach (e :: []) X.env = (false, eval e X.env) :: starEach [] X.env := by rfl) :
    SSt X W (.Expr (.Call (.Attribute a "append" apos) [e] [] cpos) pos) (sApp fa fe) := by
  refine ⟨ps_weak (ps_expr (pe_bm PySem.F.plainAttrs_list PySem.F.slot_list_append PySem.F.type_list_append (show MtR X "list.append" rAppend from mt_append) ha.pe (pa_cons he.pe pa_nil hs) hbase hfew hline hs (by rfl)) (by rfl)) fun D σ H ⟨G, ι, ρ, m, g, ev, p⟩ => ?_⟩
  refine tE_mono (run_e (Q := True) g ev p) fun v H1 ⟨G1, ι1, m1, x, x1, g1, ev1, r1, p1⟩ => ?_
  cases x with
  | d x => exact p1.elim
  | raw a => exact p1.elim
  | obj i =>
    obtain ⟨q, l, hi, rfl⟩ := r1
    obtain ⟨xs0, hm0, p1⟩ := isL1 p1
    obtain ⟨vs0, h0⟩ := g1.objL hi hm0
    refine ⟨.inl ⟨rfl, vs0, SqL.of h0⟩, ?_⟩
    refine tE_mono (run_e (Q := True) g1 ev1 p1) fun u H2 ⟨G2, ι2, m2, y, x2, g2, ev2, r2, p2⟩ => ?_
    cases y with
    | obj j => exact p2.elim
    | raw a => exact p2.elim
    | d y =>
      cases hm : m2[i]? with
      | none => rw [hm] at p2; exact p2.elim
      | some o =>
        rw [hm] at p2
        cases o with
        | tab _ _ => exact p2.elim
        | l2 _ => exact p2.elim
        | fz xs => exact p2.elim
        | l1 xs =>
          have p3 : PostS X W D G2 ι2 H2 (if xs.length < lineL then .nx ρ (m2.set i (.l1 (xs ++ [y]))) else .no) := p2
          by_cases hlt : xs.length < lineL
          · rw [if_pos hlt] at p3
            have hi2 := x2.get hi
            obtain ⟨a', vs, ea, g0, h1, r⟩ := g2.obj i _ _ hi2 hm
            cases ea
            obtain ⟨g3, e3⟩ := g2.write hi2 hm (r.append (.cons r2 .nil))
            exact ⟨q, vs, u, rfl, rfl, h1, by rw [r.length, ← lineL_eq]; exact hlt, p3 σ _ _ _ e3 g3 (ev2.ext e3)⟩
          · rw [if_neg hlt] at p3; exact p3.elim
theorem ss_ext {fn : NE} {apos cpos : Pos} (ha : SEx X W a fa) (he : NEx X W e fn) (hbase : attributeBase a "extend" X.env (eval a X.env) = eval a X.env := by rfl)
    (hfew : ((backTo cpos (starEach (e :: []) X.env)).all (fun x => !x.1) && (backToKw cpos (keywordEach [] X.env)).all (fun x => x.1.isSome)
      && decide ((e :: []).length + ([] : List Keyword).length + (if ([] : List Keyword).isEmpty then 0 else 1) < 30)) = true := by rfl)
    (hline : (apos.endLine == cpos.line) = true := by rfl) (hs : starEach (e :: []) X.env = (false, eval e X.env) :: starEach [] X.env := by rfl) :
    SSt X W (.Expr (.Call (.Attribute a "extend" apos) [e] [] cpos) pos) (sExt fa fn) := by
  refine ⟨ps_weak (ps_expr (pe_bm PySem.F.plainAttrs_list PySem.F.slot_list_extend PySem.F.type_list_extend (show MtR X "list.extend" rExtend from mt_extend) ha.pe (pa_cons he.pe pa_nil hs) hbase hfew hline hs (by rfl)) (by rfl)) fun D σ H ⟨G, ι, ρ, m, g, ev, p⟩ => ?_⟩
  refine tE_mono (run_e (Q := True) g ev p) fun v H1 ⟨G1, ι1, m1, x, x1, g1, ev1, r1, p1⟩ => ?_
  cases x with
  | d x => exact p1.elim
  | raw a => exact p1.elim
  | obj i =>
    obtain ⟨q, l, hi, rfl⟩ := r1
    obtain ⟨xs0, hm0, p1⟩ := isL1 p1
    obtain ⟨vs0, h0⟩ := g1.objL hi hm0
    refine ⟨.inl ⟨rfl, vs0, SqL.of h0⟩, G1, ι1, ρ, m1, g1, ev1, ?_⟩
    cases hr : fn ρ m1 with
    | no => rw [hr] at p1; exact p1
    | ex e m2 => rw [hr] at p1; exact p1
    | ok ys m2 =>
      rw [hr] at p1
      intro q2 ws G2 ι2 H2 x2 g2 hq2 r2
      dsimp only [Res.run_ok] at p1
      cases hm : m2[i]? with
      | none => rw [hm] at p1; exact p1.elim
      | some o =>
        rw [hm] at p1
        cases o with
        | tab _ _ => exact p1.elim
        | l2 _ => exact p1.elim
        | fz xs => exact p1.elim
        | l1 xs =>
          have p3 : PostS X W D G1 ι1 H1 (if xs.length + ys.length ≤ lineL then .nx ρ (m2.set i (.l1 (xs ++ ys))) else .no) := p1
          by_cases hlt : xs.length + ys.length ≤ lineL
          · rw [if_pos hlt] at p3
            have hi2 := x2.get hi
            obtain ⟨a', vs, ea, g0, h1, r⟩ := g2.obj i _ _ hi2 hm
            cases ea
            obtain ⟨gq, iq⟩ := g2.fresh hq2
            have g2' := g2.other iq gq (.lst ws)
            have hne : q ≠ q2 := ne_of_none h1 hq2
            obtain ⟨g3, e3⟩ := g2'.write hi2 hm (r.append r2)
            refine ⟨q, q2, vs, ws, rfl, rfl, by rw [upd_ne hne]; exact h1, upd_same, by rw [r.length, r2.length, ← lineL_eq]; exact hlt, ?_⟩
            have e4 : Ext G1 ι1 H1 G2 ι2 (upd H2 q2 (.lst ws)) := x2.trans (ext_other (Ext.refl ..) hq2 _)
            exact p3 σ _ _ _ (e4.trans e3) g3 ((ev1.ext e4).ext e3)
          · rw [if_neg hlt] at p3; exact p3.elim
theorem ss_setI {spos : Pos} (ha : SEx X W a fa) (hk : SEx X W b fk) (he : SEx X W e fe) (hs : swapsWithSole [.Subscript a b spos] e pos.line X.env = pure false := by rfl) (hw : swappedStores [.Subscript a b spos] e X.env = pure none := by rfl)
    (h1 : (assignEach [.Subscript a b spos] X.env).map (·.2) = [assign (.Subscript a b spos) X.env] := by rfl)
    (has : ∀ v, assign (.Subscript a b spos) X.env v = (do
      let ov ← holding [v] (eval a X.env)
      let iv ← holding [v, ov] (eval b X.env)
      standAt spos
      holding [v, ov, iv] (setItem ov iv v)
      release [v, ov, iv] []) := by intro _; rfl) : SSt X W (.Assign [.Subscript a b spos] e pos) (sSetI fa fk fe) := by
  refine ⟨ps_weak (ps_asg he.pe (pg_sub ha.pe hk.pe set_list has) hs hw h1) fun D σ H ⟨G, ι, ρ, m, g, ev, p⟩ => ?_⟩
  refine tE_mono (run_e (Q := True) g ev p) fun u H1 ⟨G1, ι1, m1, y, x1, g1, ev1, r1, p1⟩ => ?_
  refine tE_mono (run_e (Q := True) g1 ev1 p1) fun v H2 ⟨G2, ι2, m2, x, x2, g2, ev2, r2, p2⟩ => ?_
  refine tE_mono (run_e (Q := True) g2 ev2 p2) fun kk H3 ⟨G3, ι3, m3, z, x3, g3, ev3, r3, p3⟩ => ?_
  have key : ∃ i k d, x = .obj i ∧ z = .d (.int k) ∧ y = .d d := by
    match x, z, y, p3 with
    | .obj i, .d (.int k), .d d, _ => exact ⟨i, k, d, rfl, rfl, rfl⟩
    | .obj i, .d (.int k), .obj _, p => exact p.elim
    | .obj i, .d .non, _, p => exact p.elim
    | .obj i, .d (.bl _), _, p => exact p.elim
    | .obj i, .d (.str _), _, p => exact p.elim
    | .obj i, .d (.tup _), _, p => exact p.elim
    | .obj i, .d (.dct _ _), _, p => exact p.elim
    | .obj i, .d (.ins _ _ _), _, p => exact p.elim
    | .obj i, .d (.lst _), _, p => exact p.elim
    | .obj i, .obj _, _, p => exact p.elim
    | .d _, _, _, p => exact p.elim
  obtain ⟨i, k, d, rfl, rfl, rfl⟩ := key
  obtain ⟨q, l, hi, rfl⟩ := r2
  cases r3
  have hi3 := x3.get hi
  cases hm : m3[i]? with
  | none => dsimp only at p3; rw [hm] at p3; exact p3.elim
  | some o =>
    dsimp only at p3
    rw [hm] at p3
    cases o with
    | tab _ _ => exact p3.elim
    | l2 _ => exact p3.elim
    | fz xs => exact p3.elim
    | l1 xs =>
      have p4 : PostS X W D G3 ι3 H3 (if 0 ≤ k ∧ k < xs.length then .nx ρ (m3.set i (.l1 (xs.set k.toNat d))) else .no) := p3
      by_cases hb : 0 ≤ k ∧ k < xs.length
      · rw [if_pos hb] at p4
        obtain ⟨a', vs, ea, g0, h1, r⟩ := g3.obj i _ _ hi3 hm
        cases ea
        have rd : Rep X.kx G3 u d := Rep.mono (x2.sub.trans x3.sub) r1
        obtain ⟨g4, e4⟩ := g3.write hi3 hm (r.set rd k.toNat)
        refine ⟨q, vs, k, k.toNat, rfl, rfl, h1, ?_, p4 σ _ _ _ e4 g4 (ev3.ext e4)⟩
        unfold ixN
        rw [if_pos hb.1, if_pos (by rw [r.length]; exact hb.2)]
      · rw [if_neg hb] at p4; exact p4.elim
/-! ### a list that is changed no more -/
theorem GR.freeze {K : Kx} (g : GR K G ι m H) {i : Nat} {q : Addr} {l : List Addr} {xs : List DI.D} (hi : ι[i]? = some (q :: l)) (hm : m[i]? = some (.l1 xs)) :
    ∃ vs, GR K (upd G q (.lst vs)) ι (m.set i (.fz xs)) H ∧ Ext G ι H (upd G q (.lst vs)) ι H ∧ Rep K (upd G q (.lst vs)) (.ref q) (.lst xs) := by
  obtain ⟨a, vs, ea, g0, h0, r0⟩ := g.obj i _ _ hi hm
  cases ea
  have s : Sub G (upd G q (.lst vs)) := sub_upd g0
  have hq : q ∈ ι.flatten := mem_io hi (by simp)
  refine ⟨vs, ⟨fun x o h => ?_, by simp [g.len], g.nd, fun j l' o hl ho => ?_⟩, ⟨s, ⟨[], by simp, by simp⟩, fun x o h _ => h, fun x h => h, fun x o h => ?_⟩, .lst (SqL.of upd_same) (RepAll.mono s r0)⟩
  · by_cases z : x = q
    · subst z; rw [upd_same] at h; cases h; exact h0
    · rw [upd_ne z] at h; exact g.sub _ _ h
  · by_cases hj : j = i
    · subst hj
      rw [hi] at hl
      cases hl
      rw [List.getElem?_set_self (List.getElem?_eq_some_iff.mp hm).1] at ho
      cases ho
      exact ⟨q, vs, rfl, upd_same, RepAll.mono s r0⟩
    · rw [List.getElem?_set_ne (Ne.symm hj)] at ho
      have q0 := g.obj j l' o hl ho
      -- the objects' addresses are unlike
      have apart : q ∉ l' := by
        intro hq'
        have key : ∀ (L : Io) (i j : Nat) (l l' : List Addr), L.flatten.Nodup → L[i]? = some l → L[j]? = some l' → j ≠ i → q ∈ l → q ∈ l' → False := by
          intro L
          induction L with
          | nil => intro i j l l' _ h; simp at h
          | cons x L ih =>
            intro i j l l' nd hi hj hne h1 h2
            rw [List.flatten_cons, List.nodup_append] at nd
            cases i with
            | zero =>
              cases j with
              | zero => exact hne rfl
              | succ j =>
                simp at hi hj
                subst hi
                exact nd.2.2 q h1 q (mem_io hj h2) rfl
            | succ i =>
              cases j with
              | zero =>
                simp at hi hj
                subst hj
                exact nd.2.2 q h2 q (mem_io hi h1) rfl
              | succ j =>
                simp at hi hj
                exact ih i j l l' nd.2.1 hi hj (fun e => hne (by rw [e])) h1 h2
        exact key ι i j _ l' g.nd hi hl hj (by simp) hq'
      refine q0.mono s fun x hx => ⟨fun hn => ?_, rfl⟩
      rw [upd_ne]
      · exact hn
      · rintro rfl
        exact apart hx
  · by_cases z : x = q
    · subst z; exact .inr (.inr hq)
    · rw [upd_ne z] at h; exact .inl h
theorem ss_fz (s : Nat) {k : SS} (h : SSs X W sts k) : SSs X W sts (sFz s k) := by
  refine ⟨pss_weak h.pss fun D σ H ⟨G, ι, ρ, m, g, ev, p⟩ => ?_⟩
  unfold sFz at p
  cases h1 : ρ[s]? with
  | none => rw [h1] at p; exact p.elim
  | some o =>
    match o, h1 with
    | none, h1 => rw [h1] at p; exact p.elim
    | some (.d _), h1 => rw [h1] at p; exact p.elim
    | some (.raw _), h1 => rw [h1] at p; exact p.elim
    | some (.obj i), h1 =>
      rw [h1] at p
      dsimp only at p
      cases hm : m[i]? with
      | none => rw [hm] at p; exact p.elim
      | some o =>
        rw [hm] at p
        cases o with
        | tab _ _ => exact p.elim
        | l2 _ => exact p.elim
        | fz xs => exact p.elim
        | l1 xs =>
          obtain ⟨v, hv, q, l, hi, rfl⟩ := ev.2 s _ h1
          obtain ⟨vs, g2, e2, r2⟩ := g.freeze hi hm
          have ev2 := (ev.ext e2).set (x := .d (.lst xs)) r2 s
          have hσ : σ.set s (some (.ref q)) = σ := by
            apply List.ext_getElem?
            intro j
            by_cases hj : s = j
            · subst hj
              rw [List.getElem?_set_self (List.getElem?_eq_some_iff.mp hv).1, hv]
            · rw [List.getElem?_set_ne hj]
          rw [hσ] at ev2
          exact ⟨_, ι, _, _, g2, ev2, PostS.ext e2 p⟩
end
/-! ### functions -/
section
variable {P : Program} {w : World} {K : Kx} {base : Heap}
theorem GR.take {K : Kx} {G H : Hp} {ι : Io} {m : Mem} (g : GR K G ι m H) (n : Nat) : GR K G (ι.take n) (m.take n) H := by
  refine ⟨g.sub, by simp [g.len], ?_, fun i l o hl ho => ?_⟩
  · have : (ι.take n).flatten.Sublist ι.flatten := by
      have e : ι.flatten = (ι.take n).flatten ++ (ι.drop n).flatten := by rw [← List.flatten_append, List.take_append_drop]
      rw [e]
      exact List.sublist_append_left _ _
    exact g.nd.sublist this
  · refine g.obj i l o ?_ ?_
    · rw [List.getElem?_take] at hl
      split at hl
      · exact hl
      · cases hl
    · rw [List.getElem?_take] at ho
      split at ho
      · exact ho
      · cases ho
theorem envR_start {G : Hp} {ι : Io} {N : List Str} {vs : List V} {ds : List PV} (r : Paired (RepV K G ι) vs ds) : EnvR K G ι (ds.map some ++ List.replicate (N.length - ds.length) none) (L2.start N vs) := by
  unfold L2.start
  have hl := paired_len r
  refine ⟨by simp [hl], fun i x h => ?_⟩
  by_cases hi : i < ds.length
  · rw [List.getElem?_append_left (by simpa using hi), List.getElem?_map] at h
    have hx : ds[i]? = some x := by
      cases e : ds[i]? with
      | none => rw [e] at h; cases h
      | some y => rw [e] at h; cases h; rfl
    have get : ∀ {vs : List V} {ds : List PV} {i : Nat} {x : PV}, Paired (RepV K G ι) vs ds → ds[i]? = some x → ∃ v, vs[i]? = some v ∧ RepV K G ι v x := by
      intro vs ds i x r
      induction r generalizing i with
      | nil => intro h; simp at h
      | cons q t ih =>
        intro h
        cases i with
        | zero => simp at h; subst h; exact ⟨_, by simp, q⟩
        | succ i =>
          obtain ⟨v, h1, h2⟩ := ih (by simpa using h)
          exact ⟨v, by simpa using h1, h2⟩
    obtain ⟨v, h1, h2⟩ := get r hx
    refine ⟨v, ?_, h2⟩
    rw [List.getElem?_append_left (by simpa [hl] using hi), List.getElem?_map, h1]
    rfl
  · rw [List.getElem?_append_right (by simpa using hi), List.getElem?_replicate] at h
    split at h <;> cases h
theorem ext_take {G G' H H' : Hp} {ι ι' : Io} (e : Ext G ι H G' ι' H') {n : Nat} (hn : n = ι.length) : Ext G ι H G' (ι'.take n) H' := by
  obtain ⟨t, rfl, ht⟩ := e.pre
  refine ⟨e.sub, ⟨[], ?_, by simp⟩, e.kp, e.dm, e.gk⟩
  rw [hn, List.take_left' rfl, List.append_nil]
/-- a def of the text: its body's meaning is its worth -/
theorem fn_ok {x qual : Str} {st : Stmt} {f : Addr} {fd : FuncData} {N ps : List Str} {k n : Nat} {s : SS} (F : L2.Fun K.K x qual st f fd) (S : FnScope N ps (defScope st)) (hn : ps.length = n)
    (body : ∀ (X : Cx) (W : XK) (cdv : Value) (A : Around) (outer : List PySem.Env) (sh : Shared) (H : Hp), X = cxOf (L2N.CX P w) P w K.K K.mg base N qual (defScope st) f cdv A outer sh H W → CxOk X W k → PassesOwn (model X.prog X.w) X.A X.env X.xe → SSs X W (defBody st) s) :
    FnOk P w K.K K.mg base (L2N.CX P w) (k + 1) f fd ps (spF K n (mkFn N.length s)) := by
  obtain ⟨oc, od, kV, doc, pm, an, cdv, ct, osl, rfl, lk, hcd⟩ := F.ex
  refine fn_of lk hcd S (fun vs H Q E h => ?_) fun A outer sh H vs Q E hr h => ?_
  · obtain ⟨G, ι, m, ds, hl, _, r, _⟩ := h
    rw [paired_len r, hl, hn]
  · obtain ⟨G, ι, m, ds, hl, g, r, p⟩ := h
    have cx : CxOk (cxOf (L2N.CX P w) P w K.K K.mg base N qual (defScope st) f cdv A outer sh H E) E k :=
      ⟨L2N.takes_of rfl rfl rfl rfl, hr, rfl, S.nd⟩
    refine ⟨_, (body _ E cdv A outer sh H rfl cx (passes_of rfl)).pss, ?_⟩
    refine ⟨G, ι, _, m, g, envR_start r, ?_⟩
    have hp : PostK K E G ι H (fnR m.length (s (ds.map some ++ List.replicate (N.length - ds.length) none) m)) Q := p
    have hι : m.length = ι.length := g.len.symm
    cases ho : s (ds.map some ++ List.replicate (N.length - ds.length) none) m with
    | no => rw [ho] at hp; exact hp.elim
    | bk _ _ => rw [ho] at hp; exact hp.elim
    | ct _ _ => rw [ho] at hp; exact hp.elim
    | ex e m1 => rw [ho] at hp; exact fun c dx G' ι' H' x g' r' => hp c dx G' _ H' (ext_take x hι) (g'.take _) r'
    | nx ρ1 m1 => rw [ho] at hp; exact fun σ' G' ι' H' x g' _ => hp .non G' _ H' (ext_take x hι) (g'.take _) .non
    | rt v m1 =>
      rw [ho] at hp
      cases v with
      | d d => exact fun v G' ι' H' x g' r' => hp v G' _ H' (ext_take x hι) (g'.take _) r'
      | raw a => exact fun v G' ι' H' x g' r' => hp v G' _ H' (ext_take x hι) (g'.take _) r'
      | obj i =>
        have hp' : PostK K E G ι H (if i < m.length then .ok (.obj i) (m1.take m.length) else .ok (.obj i) m1) Q := hp
        by_cases hi : i < m.length
        · rw [if_pos hi] at hp'
          intro v G' ι' H' x g' r'
          refine hp' v G' _ H' (ext_take x hι) (g'.take _) ?_
          obtain ⟨a, l, h1, h2⟩ := r'
          exact ⟨a, l, by rw [List.getElem?_take, if_pos hi]; exact h1, h2⟩
        · rw [if_neg hi] at hp'
          exact fun v G' ι' H' x g' r' => hp' v G' ι' H' x g' r'
end
end DI
namespace DI
open PySem PySem.Spec PyProof.Rows L2
open PySem.Sem (wp)
/-- what is walked by zip and enumerate -/
inductive Sr where
  | lst (a : Addr) | tup (a : Addr) | str (x : Str)
def Sr.itr (it : Addr) (i : Nat) (h : Heap) : Sr → Prop
  | .lst a => h.IsListIter it a i
  | .tup a => h.IsTupleIter it a i
  | .str x => ∃ t, h.IsStrIter it (strIterType x) x t i
def Sr.isA (b : Addr) : Sr → Prop
  | .lst a => b = a
  | .tup a => b = a
  | .str _ => False
def Sr.val : Sr → V
  | .lst a => .ref a
  | .tup a => .ref a
  | .str x => .str x
def Sr.at (K : PySem.W.Frag) (H : Hp) (xs : List V) : Sr → Prop
  | .lst a => SqL K H a xs
  | .tup a => SqT K H a xs
  | .str x => xs = x.cps.toList.map fun c => .str ⟨#[c]⟩
theorem drawsTuple {prog : Program} {w : World} {A : Around} (hh : A.handled = none) (it l : Addr) (hne : l ≠ it) (items : Array Value) :
    Draws prog w A it [it, l] items.size (fun i v => items[i]? = some v) (fun i h => h.IsTupleIter it l i ∧ h.IsTuple l items) where
  live := fun _ _ st => let ⟨o, ho, _⟩ := st.1; ⟨o, ho⟩
  frame := fun _ _ _ st hk => ⟨st.1.at fun o e => hk it (by simp) o e, st.2.at fun o e => hk l (by simp) o e⟩
  item := fun i s Q E hi st hQ => by
    refine RZ.nextOf_tuple_item st.1 st.2 (x := items[i]) (by simp [hi]) fun h' hit' hs' => ?_
    exact hQ _ h' s.toks (by simp [hi]) ⟨hit', st.2.extBut hs'.extBut hne⟩ hs'
  done := fun s Q E st hE => RZ.nextOf_tuple_end hh st.1 st.2 (by simp) hE
section
variable {X : Cx} {pins : List (Addr × Obj)} {σ : L2.St} {H : Hp} {s : Shared}
theorem Sr.draw {A : Around} {it : Addr} {i : Nat} {xs : List V} (I : Inv X pins σ H s) (hh : A.handled = none) (sr : Sr) (hne : ∀ b, sr.isA b → b ≠ it) (h : sr.at X.K H xs) (st : sr.itr it i s.heap) :
    ∃ (fp : List Addr) (n : Nat) (P : Nat → Value → Prop) (St : Nat → Heap → Prop), Draws X.prog X.w A it fp n P St ∧ St i s.heap ∧ n = xs.length ∧ (∀ j v, P j v → ∃ x, xs[j]? = some x ∧ RelV x v) ∧ (∀ j h', St j h' → sr.itr it j h') ∧ (∀ b ∈ fp, b = it ∨ sr.isA b) := by
  cases sr with
  | lst a =>
    obtain ⟨its, rv, p, hz⟩ := I.list h
    refine ⟨_, _, _, _, Draws.list hh it a (hne a rfl) its.toArray, ⟨st, p.isList⟩, by rw [List.size_toArray, rv.length], fun j v hv => ?_, fun j h' z => z.1, fun b hb => ?_⟩
    · have hv' : its[j]? = some v := by simpa using hv
      have hj : j < its.length := by
        by_cases q : j < its.length
        · exact q
        · rw [List.getElem?_eq_none (by omega)] at hv'; cases hv'
      have hj2 : j < xs.length := by rw [rv.length]; exact hj
      obtain ⟨u, hu, ru⟩ := rv.get (List.getElem?_eq_getElem hj2)
      rw [hv'] at hu
      cases hu
      exact ⟨_, List.getElem?_eq_getElem hj2, ru⟩
    · simpa [Sr.isA] using hb
  | tup a =>
    obtain ⟨its, rv, p, hz⟩ := I.tuple h
    refine ⟨_, _, _, _, drawsTuple hh it a (hne a rfl) its.toArray, ⟨st, p⟩, by rw [List.size_toArray, rv.length], fun j v hv => ?_, fun j h' z => z.1, fun b hb => ?_⟩
    · have hv' : its[j]? = some v := by simpa using hv
      have hj : j < its.length := by
        by_cases q : j < its.length
        · exact q
        · rw [List.getElem?_eq_none (by omega)] at hv'; cases hv'
      have hj2 : j < xs.length := by rw [rv.length]; exact hj
      obtain ⟨u, hu, ru⟩ := rv.get (List.getElem?_eq_getElem hj2)
      rw [hv'] at hu
      cases hu
      exact ⟨_, List.getElem?_eq_getElem hj2, ru⟩
    · simpa [Sr.isA] using hb
  | str x =>
    obtain ⟨t, st⟩ := st
    cases h
    have D : Draws X.prog X.w A it [it] x.cps.size (fun i v => ∃ c u, x.cps[i]? = some c ∧ v = .str ⟨#[c]⟩ u) (fun i h => h.IsStrIter it (strIterType x) x t i) := by
      unfold strIterType
      split
      · exact Draws.strAscii hh it x t
      · exact Draws.strWide hh it x t
    refine ⟨_, _, _, _, D, st, by simp, fun j v hv => ?_, fun j h' z => ⟨t, z⟩, fun b hb => ?_⟩
    · obtain ⟨c, u, hc, rfl⟩ := hv
      refine ⟨.str ⟨#[c]⟩, ?_, ⟨u, rfl⟩⟩
      have : x.cps.toList[j]? = some c := by simpa using hc
      rw [List.getElem?_map, this] <;> rfl
    · exact .inl (by simpa using hb)
theorem Sr.at_inj {sr : Sr} {xs ys : List V} (I : Inv X pins σ H s) (h : sr.at X.K H xs) (h' : sr.at X.K H ys) : xs = ys := by
  cases sr with
  | lst a => exact I.list_inj h h'
  | tup a => exact I.tuple_inj h h'
  | str x => exact h.trans h'.symm
theorem Sr.itr_at {sr : Sr} {it : Addr} {i : Nat} {h h' : Heap} (st : sr.itr it i h) (k : ∀ o, h.get? it = some o → h'.get? it = some o) : sr.itr it i h' := by
  cases sr with
  | lst a => exact Heap.IsListIter.at st k
  | tup a => exact Heap.IsTupleIter.at st k
  | str x => obtain ⟨t, o, ho, r⟩ := st; exact ⟨t, o, k o ho, r⟩
theorem Sr.itr_obj {sr : Sr} {it : Addr} {i : Nat} {h : Heap} (st : sr.itr it i h) : ∃ o, h.get? it = some o ∧ ∀ v, o.data ≠ .cell v := by
  cases sr with
  | lst a => obtain ⟨o, e, _, d⟩ := st; exact ⟨o, e, fun v q => by rw [d] at q; cases q⟩
  | tup a => obtain ⟨o, e, _, d⟩ := st; exact ⟨o, e, fun v q => by rw [d] at q; cases q⟩
  | str x => obtain ⟨t, o, e, _, d⟩ := st; exact ⟨o, e, fun v q => by rw [d] at q; cases q⟩
end

/-! ### the turn of zip, of any two -/
structure ZApart (z TI TO i1 i2 : Addr) : Prop where
  TIz : TI ≠ z
  TOz : TO ≠ z
  i1z : i1 ≠ z
  i2z : i2 ≠ z
  TITO : TI ≠ TO
  TIi1 : TI ≠ i1
  TIi2 : TI ≠ i2
  TOi1 : TO ≠ i1
  TOi2 : TO ≠ i2
  i12 : i1 ≠ i2
section
variable {prog : Program} {w : World} {A : Around} {E : Value → Shared → Prop} {s : Shared}
theorem zipD_next_item {z TI TO i1 i2 : Addr} {k n1 n2 : Nat} {fp1 fp2 : List Addr} {P1 P2 : Nat → Value → Prop} {S1 S2 : Nat → Heap → Prop} {a b : Value} {Q : Value → Shared → Prop} (D : ZApart z TI TO i1 i2)
    (d1 : Draws prog w A i1 fp1 n1 P1 S1) (d2 : Draws prog w A i2 fp2 n2 P2 S2) (f1 : z ∉ fp1 ∧ TO ∉ fp1 ∧ i2 ∉ fp1) (f2 : z ∉ fp2 ∧ TO ∉ fp2 ∧ i1 ∉ fp2)
    (hz : IsZip s.heap z TI TO .none) (hTI : IsPair s.heap TI (.ref i1) (.ref i2)) (hTO : IsPair s.heap TO a b)
    (h1 : S1 k s.heap) (h2 : S2 k s.heap) (hn1 : k < n1) (hn2 : k < n2)
    (hQ : ∀ x y h' tk, P1 k x → P2 k y → IsZip h' z TI TO (rawInt s.heap.objs.size) → IsPair h' TO x y → S1 (k + 1) h' → S2 (k + 1) h' → IsPair h' s.heap.objs.size x y → h'.objs.size = s.heap.objs.size + 1 →
      (∀ c o, c ≠ z → c ≠ TO → c ≠ i1 → c ≠ i2 → s.heap.get? c = some o → h'.get? c = some o) → Q (.ref s.heap.objs.size) { s with heap := h', toks := tk }) :
    wpAny (model prog w) A (Builtin.«zip.__next__» ⟨[.ref z], []⟩) (fun fin s' => ∃ v, fin = .done (.ret v) ∧ Q v s') E s := by
  show wpAny _ _ (field (.ref z) 2 >>= _) _ _ _
  refine wpAny_bind (wpAny_field hz rfl (x := .bool false) rfl ?_)
  show wpAny _ _ (field (.ref z) 3 >>= _) _ _ _
  refine wpAny_bind (wpAny_field hz rfl (x := .ref TI) rfl ?_)
  refine wpAny_bind (wpAny_seqItems hTI rfl ?_)
  show wpAny _ _ (Builtin.SmallTypes.ownedTupleIsFree (.ref z) >>= _) _ _ _
  refine wpAny_bind ?_
  unfold Builtin.SmallTypes.ownedTupleIsFree
  refine wpAny_bind (wpAny_field hz rfl (x := .none) rfl (wpAny_pure ?_))
  simp only [if_true]
  refine wpAny_bind (wpAny_rule ?_)
  refine wpAny_bind (wpAny_field hz rfl (x := .ref TO) rfl ?_)
  refine wpAny_bind (wpAny_setField_rec hz (by simp) fun h₁ hz₁ hs₁ => ?_)
  replace hz₁ : IsZip h₁ z TI TO .ellipsis := hz₁
  have h1₁ : S1 k h₁ := d1.frame _ _ _ h1 fun c hc o e => hs₁.extBut _ _ (fun q => f1.1 (q ▸ hc)) e
  have h2₁ : S2 k h₁ := d2.frame _ _ _ h2 fun c hc o e => hs₁.extBut _ _ (fun q => f2.1 (q ▸ hc)) e
  refine wpAny_bind ?_
  simp only [List.zipIdx_cons, List.zipIdx_nil, List.forIn_cons, List.forIn_nil]

  refine wpAny_bind (wpAny_bind (wpAny_onRaise ?_))
  show wpAny _ _ (Builtin.SmallTypes.nextOf (.ref i1) >>= _) _ _ _
  refine wpAny_bind (d1.item k _ _ _ hn1 h1₁ fun x h₂ tk₂ p1 h1₂ hs₂ => wpAny_pure ?_)
  replace hs₂ : Heap.SameBut i1 h₁ h₂ := hs₂
  have hTO₂ : IsPair h₂ TO a b := hs₂.extBut _ _ D.TOi1 (hs₁.extBut _ _ D.TOz hTO)
  have h2₂ : S2 k h₂ := d2.frame _ _ _ h2₁ fun c hc o e => hs₂.extBut _ _ (fun q => f2.2.2 (q ▸ hc)) e
  refine wpAny_bind (wpAny_seqItems hTO₂ rfl ?_)
  refine wpAny_bind (wpAny_updateSeq_pair hTO₂ fun h₃ hTO₃ hs₃ => ?_)
  replace hTO₃ : IsPair h₃ TO x b := hTO₃
  replace hs₃ : Heap.SameBut TO h₂ h₃ := hs₃
  have h1₃ : S1 (k + 1) h₃ := d1.frame _ _ _ h1₂ fun c hc o e => hs₃.extBut _ _ (fun q => f1.2.1 (q ▸ hc)) e
  have h2₃ : S2 k h₃ := d2.frame _ _ _ h2₂ fun c hc o e => hs₃.extBut _ _ (fun q => f2.2.1 (q ▸ hc)) e
  refine wpAny_bind (wpAny_letGo (wpAny_pure ?_))

  refine wpAny_bind (wpAny_bind (wpAny_onRaise ?_))
  show wpAny _ _ (Builtin.SmallTypes.nextOf (.ref i2) >>= _) _ _ _
  refine wpAny_bind (d2.item k _ _ _ hn2 h2₃ fun y h₄ tk₄ p2 h2₄ hs₄ => wpAny_pure ?_)
  replace hs₄ : Heap.SameBut i2 h₃ h₄ := hs₄
  have hTO₄ : IsPair h₄ TO x b := hs₄.extBut _ _ D.TOi2 hTO₃
  have h1₄ : S1 (k + 1) h₄ := d1.frame _ _ _ h1₃ fun c hc o e => hs₄.extBut _ _ (fun q => f1.2.2 (q ▸ hc)) e
  refine wpAny_bind (wpAny_seqItems hTO₄ rfl ?_)
  refine wpAny_bind (wpAny_updateSeq_pair hTO₄ fun h₅ hTO₅ hs₅ => ?_)
  replace hTO₅ : IsPair h₅ TO x y := hTO₅
  replace hs₅ : Heap.SameBut TO h₄ h₅ := hs₅
  have h1₅ : S1 (k + 1) h₅ := d1.frame _ _ _ h1₄ fun c hc o e => hs₅.extBut _ _ (fun q => f1.2.1 (q ▸ hc)) e
  have h2₅ : S2 (k + 1) h₅ := d2.frame _ _ _ h2₄ fun c hc o e => hs₅.extBut _ _ (fun q => f2.2.1 (q ▸ hc)) e
  refine wpAny_bind (wpAny_letGo (wpAny_pure (wpAny_pure ?_)))

  refine wpAny_bind (wpAny_seqItems hTO₅ rfl ?_)
  refine wpAny_bind (wpAny_newTuple ?_)
  have hsz : h₅.objs.size = s.heap.objs.size := by rw [hs₅.1, hs₄.1, hs₃.1, hs₂.1, hs₁.1]
  have hz₅ : IsZip h₅ z TI TO .ellipsis := hs₅.extBut _ _ D.TOz.symm (hs₄.extBut _ _ D.i2z.symm (hs₃.extBut _ _ D.TOz.symm (hs₂.extBut _ _ D.i1z.symm hz₁)))
  have hk₅ : ∀ c o, c ≠ z → c ≠ TO → c ≠ i1 → c ≠ i2 → s.heap.get? c = some o → h₅.get? c = some o := fun c o c1 c2 c3 c4 e =>
    hs₅.extBut _ _ c2 (hs₄.extBut _ _ c4 (hs₃.extBut _ _ c2 (hs₂.extBut _ _ c3 (hs₁.extBut _ _ c1 e))))
  have hzlt : z < h₅.objs.size := Heap.lt_size hz₅
  have hTOlt : TO < h₅.objs.size := Heap.lt_size hTO₅
  show wpAny _ _ (Builtin.SmallTypes.ownedTupleHandOut (.ref z) (.ref h₅.objs.size) >>= _) _ _ _
  refine wpAny_bind ?_
  unfold Builtin.SmallTypes.ownedTupleHandOut
  have hz₆ : IsZip (h₅.push { cls := .type "tuple", data := .seq #[x, y] }) z TI TO .ellipsis := Heap.get?_push_of_some _ hz₅
  refine wpAny_bind (wpAny_setField_rec hz₆ (by simp) fun h₇ hz₇ hs₇ => ?_)
  replace hz₇ : IsZip h₇ z TI TO (rawInt h₅.objs.size) := hz₇
  refine wpAny_setField_rec hz₇ (by simp) fun h₈ hz₈ hs₈ => ?_
  replace hz₈ : IsZip h₈ z TI TO (rawInt h₅.objs.size) := hz₈
  have up : ∀ c o, c ≠ z → h₅.get? c = some o → h₈.get? c = some o := fun c o c1 e => hs₈.extBut _ _ c1 (hs₇.extBut _ _ c1 (Heap.get?_push_of_some _ e))
  have hT₈ : IsPair h₈ h₅.objs.size x y := hs₈.extBut _ _ (Nat.ne_of_gt hzlt) (hs₇.extBut _ _ (Nat.ne_of_gt hzlt) (Heap.get?_push_size _ rfl))
  have hz8 : h₈.objs.size = h₅.objs.size + 1 := by rw [hs₈.1, hs₇.1, Heap.size_push]
  have h1₈ : S1 (k + 1) h₈ := d1.frame _ _ _ h1₅ fun c hc o e => up _ _ (fun q => f1.1 (q ▸ hc)) e
  have h2₈ : S2 (k + 1) h₈ := d2.frame _ _ _ h2₅ fun c hc o e => up _ _ (fun q => f2.1 (q ▸ hc)) e
  rw [hsz] at hz₈ hT₈ hz8
  refine wpAny_pure ⟨_, rfl, ?_⟩
  show Q (.ref h₅.objs.size) _
  rw [hsz]
  exact hQ x y h₈ tk₄ p1 p2 hz₈ (up _ _ D.TOz hTO₅) h1₈ h2₈ hT₈ hz8 fun c o c1 c2 c3 c4 e => up c o c1 (hk₅ c o c1 c2 c3 c4 e)

theorem zipD_next_end {z TI TO i1 i2 : Addr} {k n1 n2 : Nat} {fp1 fp2 : List Addr} {P1 P2 : Nat → Value → Prop} {S1 S2 : Nat → Heap → Prop} {a b : Value} {Q : PySem.Fin → Shared → Prop} (D : ZApart z TI TO i1 i2)
    (d1 : Draws prog w A i1 fp1 n1 P1 S1) (d2 : Draws prog w A i2 fp2 n2 P2 S2) (f1 : z ∉ fp1 ∧ TO ∉ fp1 ∧ i2 ∉ fp1) (f2 : z ∉ fp2 ∧ TO ∉ fp2 ∧ i1 ∉ fp2)
    (hz : IsZip s.heap z TI TO .none) (hTI : IsPair s.heap TI (.ref i1) (.ref i2)) (hTO : IsPair s.heap TO a b)
    (h1 : S1 k s.heap) (h2 : S2 k s.heap) (hend : k = n1 ∨ (k < n1 ∧ k = n2))
    (hE : ∀ h' tk e, (∀ c o, c ≠ z → c ≠ TO → c ≠ i1 → c ≠ i2 → s.heap.get? c = some o → h'.get? c = some o) → (∃ o, h'.get? e = some o ∧ o.cls = .type "StopIteration") → E (.ref e) { s with heap := h', toks := tk }) :
    wpAny (model prog w) A (Builtin.«zip.__next__» ⟨[.ref z], []⟩) Q E s := by
  show wpAny _ _ (field (.ref z) 2 >>= _) _ _ _
  refine wpAny_bind (wpAny_field hz rfl (x := .bool false) rfl ?_)
  show wpAny _ _ (field (.ref z) 3 >>= _) _ _ _
  refine wpAny_bind (wpAny_field hz rfl (x := .ref TI) rfl ?_)
  refine wpAny_bind (wpAny_seqItems hTI rfl ?_)
  show wpAny _ _ (Builtin.SmallTypes.ownedTupleIsFree (.ref z) >>= _) _ _ _
  refine wpAny_bind ?_
  unfold Builtin.SmallTypes.ownedTupleIsFree
  refine wpAny_bind (wpAny_field hz rfl (x := .none) rfl (wpAny_pure ?_))
  simp only [if_true]
  refine wpAny_bind (wpAny_rule ?_)
  refine wpAny_bind (wpAny_field hz rfl (x := .ref TO) rfl ?_)
  refine wpAny_bind (wpAny_setField_rec hz (by simp) fun h₁ hz₁ hs₁ => ?_)
  replace hz₁ : IsZip h₁ z TI TO .ellipsis := hz₁
  have h1₁ : S1 k h₁ := d1.frame _ _ _ h1 fun c hc o e => hs₁.extBut _ _ (fun q => f1.1 (q ▸ hc)) e
  have h2₁ : S2 k h₁ := d2.frame _ _ _ h2 fun c hc o e => hs₁.extBut _ _ (fun q => f2.1 (q ▸ hc)) e
  refine wpAny_bind ?_
  simp only [List.zipIdx_cons, List.zipIdx_nil, List.forIn_cons, List.forIn_nil]
  refine wpAny_bind (wpAny_bind (wpAny_onRaise ?_))
  show wpAny _ _ (Builtin.SmallTypes.nextOf (.ref i1) >>= _) _ _ _
  rcases hend with hx | ⟨hx, hy⟩
  · subst hx
    refine wpAny_bind (d1.done _ _ _ h1₁ fun h₂ e hs₂ he => ?_)
    obtain ⟨oe, hoe, hce⟩ := he
    replace hs₂ : Heap.ExtBut i1 h₁ h₂ := hs₂
    have hz₂ : IsZip h₂ z TI TO .ellipsis := hs₂ _ _ D.i1z.symm hz₁
    have hez : e ≠ z := fun x => by subst x; rw [hz₂] at hoe; cases hoe; simp at hce
    exact wpAny_setField_rec hz₂ (by simp) fun h₃ _ hs₃ => hE h₃ _ e (fun c o c1 _ c3 _ x => hs₃.extBut _ _ c1 (hs₂ _ _ c3 (hs₁.extBut _ _ c1 x))) ⟨oe, hs₃.extBut _ _ hez hoe, hce⟩
  · subst hy
    refine wpAny_bind (d1.item k _ _ _ hx h1₁ fun x h₂ tk₂ p1 h1₂ hs₂ => wpAny_pure ?_)
    replace hs₂ : Heap.SameBut i1 h₁ h₂ := hs₂
    have hTO₂ : IsPair h₂ TO a b := hs₂.extBut _ _ D.TOi1 (hs₁.extBut _ _ D.TOz hTO)
    have h2₂ : S2 k h₂ := d2.frame _ _ _ h2₁ fun c hc o e => hs₂.extBut _ _ (fun q => f2.2.2 (q ▸ hc)) e
    refine wpAny_bind (wpAny_seqItems hTO₂ rfl ?_)
    refine wpAny_bind (wpAny_updateSeq_pair hTO₂ fun h₃ hTO₃ hs₃ => ?_)
    replace hs₃ : Heap.SameBut TO h₂ h₃ := hs₃
    have h2₃ : S2 k h₃ := d2.frame _ _ _ h2₂ fun c hc o e => hs₃.extBut _ _ (fun q => f2.2.1 (q ▸ hc)) e
    refine wpAny_bind (wpAny_letGo (wpAny_pure ?_))
    refine wpAny_bind (wpAny_bind (wpAny_onRaise ?_))
    show wpAny _ _ (Builtin.SmallTypes.nextOf (.ref i2) >>= _) _ _ _
    refine wpAny_bind (d2.done _ _ _ h2₃ fun h₄ e hs₄ he => ?_)
    obtain ⟨oe, hoe, hce⟩ := he
    replace hs₄ : Heap.ExtBut i2 h₃ h₄ := hs₄
    have hz₄ : IsZip h₄ z TI TO .ellipsis := hs₄ _ _ D.i2z.symm (hs₃.extBut _ _ D.TOz.symm (hs₂.extBut _ _ D.i1z.symm hz₁))
    have hez : e ≠ z := fun x => by subst x; rw [hz₄] at hoe; cases hoe; simp at hce
    exact wpAny_setField_rec hz₄ (by simp) fun h₅ _ hs₅ => hE h₅ _ e (fun c o c1 c2 c3 c4 x => hs₅.extBut _ _ c1 (hs₄ _ _ c4 (hs₃.extBut _ _ c2 (hs₂.extBut _ _ c3 (hs₁.extBut _ _ c1 x))))) ⟨oe, hs₅.extBut _ _ hez hoe, hce⟩
end
end DI
namespace DI
open PySem PySem.Spec PyProof.Rows L2
open PySem.Sem (wp)
section
variable {prog : Program} {w : World} {A : Around} {E : Value → Shared → Prop} {s : Shared}
theorem pyNext_zipD_item {z TI TO i1 i2 : Addr} {k n1 n2 : Nat} {fp1 fp2 : List Addr} {P1 P2 : Nat → Value → Prop} {S1 S2 : Nat → Heap → Prop} {a b : Value} {Q : Option Value → Shared → Prop} (D : ZApart z TI TO i1 i2)
    (d1 : Draws prog w A.in1 i1 fp1 n1 P1 S1) (d2 : Draws prog w A.in1 i2 fp2 n2 P2 S2) (f1 : z ∉ fp1 ∧ TO ∉ fp1 ∧ i2 ∉ fp1) (f2 : z ∉ fp2 ∧ TO ∉ fp2 ∧ i1 ∉ fp2)
    (hz : IsZip s.heap z TI TO .none) (hTI : IsPair s.heap TI (.ref i1) (.ref i2)) (hTO : IsPair s.heap TO a b)
    (h1 : S1 k s.heap) (h2 : S2 k s.heap) (hn1 : k < n1) (hn2 : k < n2)
    (hQ : ∀ x y h' tk, P1 k x → P2 k y → IsZip h' z TI TO (rawInt s.heap.objs.size) → IsPair h' TO x y → S1 (k + 1) h' → S2 (k + 1) h' → IsPair h' s.heap.objs.size x y → h'.objs.size = s.heap.objs.size + 1 →
      (∀ c o, c ≠ z → c ≠ TO → c ≠ i1 → c ≠ i2 → s.heap.get? c = some o → h'.get? c = some o) → Q (some (.ref s.heap.objs.size)) { s with heap := h', toks := tk }) :
    wpAny (model prog w) A (pyNext (.ref z)) Q E s := by
  have hT : s.TypeIs (.ref z) "zip" := ⟨_, hz, rfl⟩
  unfold pyNext
  exact wpAny_bind (wpAny_attempt (wpAny_callSpecial?_slot (name := Str.ofString "__next__") hT F.slot_zip_next
    (wpAny_call_entry F.slot_zip_next hT F.entry_zip_next
      (zipD_next_item D d1 d2 f1 f2 hz hTI hTO h1 h2 hn1 hn2 fun x y h' tk p1 p2 a1 a2 a3 a4 a5 a6 a7 => wpAny_pure (hQ x y h' tk p1 p2 a1 a2 a3 a4 a5 a6 a7)) (F.args_zip_next_1 _))))
theorem pyNext_zipD_end {z TI TO i1 i2 : Addr} {k n1 n2 : Nat} {fp1 fp2 : List Addr} {P1 P2 : Nat → Value → Prop} {S1 S2 : Nat → Heap → Prop} {a b : Value} {Q : Option Value → Shared → Prop} (D : ZApart z TI TO i1 i2)
    (d1 : Draws prog w A.in1 i1 fp1 n1 P1 S1) (d2 : Draws prog w A.in1 i2 fp2 n2 P2 S2) (f1 : z ∉ fp1 ∧ TO ∉ fp1 ∧ i2 ∉ fp1) (f2 : z ∉ fp2 ∧ TO ∉ fp2 ∧ i1 ∉ fp2)
    (hz : IsZip s.heap z TI TO .none) (hTI : IsPair s.heap TI (.ref i1) (.ref i2)) (hTO : IsPair s.heap TO a b)
    (h1 : S1 k s.heap) (h2 : S2 k s.heap) (hend : k = n1 ∨ (k < n1 ∧ k = n2))
    (hQ : ∀ h' tk, (∀ c o, c ≠ z → c ≠ TO → c ≠ i1 → c ≠ i2 → s.heap.get? c = some o → h'.get? c = some o) → Q none { s with heap := h', toks := tk }) : wpAny (model prog w) A (pyNext (.ref z)) Q E s := by
  have hT : s.TypeIs (.ref z) "zip" := ⟨_, hz, rfl⟩
  unfold pyNext
  refine wpAny_bind (wpAny_attempt (wpAny_callSpecial?_slot (name := Str.ofString "__next__") hT F.slot_zip_next
    (wpAny_call_entry F.slot_zip_next hT F.entry_zip_next (zipD_next_end D d1 d2 f1 f2 hz hTI hTO h1 h2 hend fun h' tk e hk he => ?_) (F.args_zip_next_1 _))))
  obtain ⟨o, ho, hc⟩ := he
  refine wpAny_bind (wpAny_isInstance (T := "StopIteration") (b := true) ⟨o, ho, hc⟩ isSubtype_stop ?_)
  exact wpAny_pure (hQ _ _ hk)
end

def ItzS (K : PySem.W.Frag) (sa sb : Sr) : It :=
  ⟨fun i H => ∃ (xs ys : List V) (x y : V), sa.at K H xs ∧ sb.at K H ys ∧ xs[i]? = some x ∧ ys[i]? = some y,
    fun i H v H' => ∃ T x y, v = .ref T ∧ H T = none ∧ H' = upd H T (.tup [x, y]) ∧ (∀ xs, sa.at K H xs → xs[i]? = some x) ∧ ∀ ys, sb.at K H ys → ys[i]? = some y,
    fun i H => ∃ xs ys : List V, sa.at K H xs ∧ sb.at K H ys ∧ i = min xs.length ys.length⟩
theorem turn_zipD {P : Program} {w : World} {K : PySem.W.Frag} {elts : List Expr} {kk : Nat} {tpos : Pos} {sa sb : Sr} {z TI TO i1 i2 : Addr} (D : ZApart z TI TO i1 i2)
    (n1 : ∀ b, sa.isA b → b ≠ z ∧ b ≠ TO ∧ b ≠ i2 ∧ b ≠ i1) (n2 : ∀ b, sb.isA b → b ≠ z ∧ b ≠ TO ∧ b ≠ i1 ∧ b ≠ i2) :
    Turn P w K (.Tuple elts kk tpos) (ItzS K sa sb) [z, TI, TO, i1, i2] z (fun i h => IsZip h z TI TO .none ∧ IsPair h TI (.ref i1) (.ref i2) ∧ (∃ x y, IsPair h TO x y) ∧ sa.itr i1 i h ∧ sb.itr i2 i h) where
  mem := by simp
  obj := fun i h st c hc => by
    obtain ⟨hz, hTI, ⟨x, y, hTO⟩, h1, h2⟩ := st
    have e' : c = z ∨ c = TI ∨ c = TO ∨ c = i1 ∨ c = i2 := by simpa using hc
    rcases e' with q | q | q | q | q
    · rw [q]; exact ⟨_, hz, fun v q => nomatch q⟩
    · rw [q]; exact ⟨_, hTI, fun v q => nomatch q⟩
    · rw [q]; exact ⟨_, hTO, fun v q => nomatch q⟩
    · rw [q]; exact Sr.itr_obj h1
    · rw [q]; exact Sr.itr_obj h2
  keep := fun i h h' st k => by
    obtain ⟨hz, hTI, ⟨x, y, hTO⟩, h1, h2⟩ := st
    exact ⟨k z (by simp) _ hz, k TI (by simp) _ hTI, ⟨x, y, k TO (by simp) _ hTO⟩, Sr.itr_at h1 fun o q => k i1 (by simp) o q, Sr.itr_at h2 fun o q => k i2 (by simp) o q⟩
  item := by
    intro X hP hw hK hc i pins s σ H E I hf st hg
    subst hP hw hK
    obtain ⟨hz, hTI, ⟨x0, y0, hTO⟩, h1, h2⟩ := st
    obtain ⟨xs, ys, x, y, hqx, hqy, hx, hy⟩ := hg
    have hh : X.A.in1.handled = none := I.ok.hd hc
    obtain ⟨fp1, m1, P1, S1, d1, s1, e1, g1, j1, k1⟩ := Sr.draw I hh sa (fun b hb => (n1 b hb).2.2.2) hqx h1
    obtain ⟨fp2, m2, P2, S2, d2, s2, e2, g2, j2, k2⟩ := Sr.draw I hh sb (fun b hb => (n2 b hb).2.2.2) hqy h2
    have lx : i < xs.length := by
      by_cases q : i < xs.length
      · exact q
      · rw [List.getElem?_eq_none (by omega)] at hx; cases hx
    have ly : i < ys.length := by
      by_cases q : i < ys.length
      · exact q
      · rw [List.getElem?_eq_none (by omega)] at hy; cases hy
    have f1 : z ∉ fp1 ∧ TO ∉ fp1 ∧ i2 ∉ fp1 := ⟨fun q => (k1 _ q).elim (fun r => D.i1z r.symm) fun r => (n1 _ r).1 rfl, fun q => (k1 _ q).elim (fun r => D.TOi1 r) fun r => (n1 _ r).2.1 rfl, fun q => (k1 _ q).elim (fun r => D.i12 r.symm) fun r => (n1 _ r).2.2.1 rfl⟩
    have f2 : z ∉ fp2 ∧ TO ∉ fp2 ∧ i1 ∉ fp2 := ⟨fun q => (k2 _ q).elim (fun r => D.i2z r.symm) fun r => (n2 _ r).1 rfl, fun q => (k2 _ q).elim (fun r => D.TOi2 r) fun r => (n2 _ r).2.1 rfl, fun q => (k2 _ q).elim (fun r => D.i12 r) fun r => (n2 _ r).2.2.1 rfl⟩
    have hzl : z < s.heap.objs.size := Heap.lt_size hz
    refine pyNext_zipD_item D d1 d2 f1 f2 hz hTI hTO s1 s2 (by omega) (by omega) fun u u2 h' tk p1 p2 z' TO' h1' h2' hT hsz hk => ?_
    obtain ⟨x', hx', ru⟩ := g1 _ _ p1
    obtain ⟨y', hy', ru2⟩ := g2 _ _ p2
    rw [hx] at hx'
    cases hx'
    rw [hy] at hy'
    cases hy'
    refine ⟨_, rfl, wpAny_letOwnedTupleGo_zip (s := { s with heap := h', toks := tk }) z' fun h'' z'' sb' => ?_⟩
    have hT2 : h''.get? s.heap.objs.size = some { cls := .type "tuple", data := .seq #[u, u2] } := (sb'.2 _ (Nat.ne_of_gt hzl)).trans hT
    have new : ObjOk X.prog X.w (upd H s.heap.objs.size (.tup [x, y])) h'' s.heap.objs.size (.tup [x, y]) :=
      ⟨by show 2 ≤ sizeLine; decide, [u, u2], .cons ru (.cons ru2 .nil), ⟨_, hT2, rfl, _, rfl⟩⟩
    have I1 : Inv X pins σ (upd H s.heap.objs.size (.tup [x, y])) { s with heap := h'', toks := tk } :=
      I.turnedNew (t' := tk) (ch := [z, TI, TO, i1, i2]) (fun c o hb q => (sb'.2 c (fun q' => hb (by simp [q']))).trans (hk c o (fun q' => hb (by simp [q'])) (fun q' => hb (by simp [q'])) (fun q' => hb (by simp [q'])) (fun q' => hb (by simp [q'])) q)) hf (Nat.le_refl _) new
    refine ⟨.ref s.heap.objs.size, _, I1, rfl, ⟨_, x, y, rfl, I.hok.fresh (Nat.le_refl _), rfl, fun l hl => by rw [Sr.at_inj I hl hqx]; exact hx, fun l hl => by rw [Sr.at_inj I hl hqy]; exact hy⟩, ⟨z'', ?_, ⟨u, u2, ?_⟩, ?_, ?_⟩, fun c hcm => ?_⟩
    · exact (sb'.2 _ D.TIz).trans (hk _ _ D.TIz D.TITO D.TIi1 D.TIi2 hTI)
    · exact (sb'.2 _ D.TOz).trans TO'
    · exact Sr.itr_at (j1 _ _ h1') fun o q => (sb'.2 _ D.i1z).trans q
    · exact Sr.itr_at (j2 _ _ h2') fun o q => (sb'.2 _ D.i2z).trans q
    · have hlt : c < s.heap.objs.size := by
        have e' : c = z ∨ c = TI ∨ c = TO ∨ c = i1 ∨ c = i2 := by simpa using hcm
        rcases e' with q | q | q | q | q
        · rw [q]; exact hzl
        · rw [q]; exact Heap.lt_size hTI
        · rw [q]; exact Heap.lt_size hTO
        · rw [q]; obtain ⟨_, e1, _⟩ := Sr.itr_obj h1; exact Heap.lt_size e1
        · rw [q]; obtain ⟨_, e2, _⟩ := Sr.itr_obj h2; exact Heap.lt_size e2
      rw [upd_ne (Nat.ne_of_lt hlt)]
      exact (hf c hcm).1
  done := by
    intro X hP hw hK hc i pins s σ H E I hf st hg
    subst hP hw hK
    obtain ⟨hz, hTI, ⟨x0, y0, hTO⟩, h1, h2⟩ := st
    obtain ⟨xs, ys, hqx, hqy, hend⟩ := hg
    have hh : X.A.in1.handled = none := I.ok.hd hc
    obtain ⟨fp1, m1, P1, S1, d1, s1, e1, g1, j1, k1⟩ := Sr.draw I hh sa (fun b hb => (n1 b hb).2.2.2) hqx h1
    obtain ⟨fp2, m2, P2, S2, d2, s2, e2, g2, j2, k2⟩ := Sr.draw I hh sb (fun b hb => (n2 b hb).2.2.2) hqy h2
    have f1 : z ∉ fp1 ∧ TO ∉ fp1 ∧ i2 ∉ fp1 := ⟨fun q => (k1 _ q).elim (fun r => D.i1z r.symm) fun r => (n1 _ r).1 rfl, fun q => (k1 _ q).elim (fun r => D.TOi1 r) fun r => (n1 _ r).2.1 rfl, fun q => (k1 _ q).elim (fun r => D.i12 r.symm) fun r => (n1 _ r).2.2.1 rfl⟩
    have f2 : z ∉ fp2 ∧ TO ∉ fp2 ∧ i1 ∉ fp2 := ⟨fun q => (k2 _ q).elim (fun r => D.i2z r.symm) fun r => (n2 _ r).1 rfl, fun q => (k2 _ q).elim (fun r => D.TOi2 r) fun r => (n2 _ r).2.1 rfl, fun q => (k2 _ q).elim (fun r => D.i12 r) fun r => (n2 _ r).2.2.1 rfl⟩
    exact pyNext_zipD_end D d1 d2 f1 f2 hz hTI hTO s1 s2 (by omega) fun h' tk hk => ⟨rfl, I.turnedL (t' := tk) (ch := [z, TI, TO, i1, i2]) (fun c o hb q =>
      hk c o (fun q' => hb (by simp [q'])) (fun q' => hb (by simp [q'])) (fun q' => hb (by simp [q'])) (fun q' => hb (by simp [q'])) q) hf⟩
  self := fun A i s Q E st h => wpAny_pyIter_zip st.1 h

/-! ### the iterators made -/
def Itrs (u : Value) (o : Obj) (h : Heap) : Prop := ∀ (prog : Program) (w : World) (A : Around) (E : Value → Shared → Prop) (Q : Value → Shared → Prop) (s : Shared), s.heap = h → Q (.ref s.heap.objs.size) { s with heap := s.heap.push o } → wpAny (model prog w) A (pyIter u) Q E s

theorem Itrs.lst {a : Addr} {h : Heap} {its : Array Value} (p : h.IsList a its) : Itrs (.ref a) { cls := .type "list_iterator", data := .fields #[.ref a, .int 0 0] } h := fun prog w A E Q s e hQ => by
  subst e
  exact wpAny_pyIter_list p hQ
theorem Itrs.tup {a : Addr} {h : Heap} {its : Array Value} (p : h.IsTuple a its) : Itrs (.ref a) { cls := .type "tuple_iterator", data := .fields #[.ref a, .int 0 0] } h := fun prog w A E Q s e hQ => by
  subst e
  exact wpAny_pyIter_tuple p hQ
theorem Itrs.str {x : Str} {t : Tok} {h : Heap} : Itrs (.str x t) { cls := .type (strIterType x), data := .fields #[.str x t, .int 0 0] } h := fun prog w A E Q s e hQ => by
  subst e
  exact wpAny_pyIter_strU hQ
/-- the same in words that wp_walk can use -/
def It5 (u : Value) (o : Obj) (h : Heap) (g : Heap → Shared) : Prop := ∀ (prog : Program) (w : World) (A : Around) (E : Value → Shared → Prop) (Q : Value → Shared → Prop), Q (.ref h.objs.size) (g (h.push o)) → wpAny (model prog w) A (pyIter u) Q E (g h)
abbrev zH1 (h : Heap) (o1 : Obj) : Heap := h.push o1
abbrev zH2 (h : Heap) (o1 o2 : Obj) : Heap := (zH1 h o1).push o2
abbrev zH3 (h : Heap) (o1 o2 : Obj) : Heap := (zH2 h o1 o2).push { cls := .type "tuple", data := .seq #[.ref h.objs.size, .ref (zH1 h o1).objs.size] }
abbrev zH4 (h : Heap) (o1 o2 : Obj) : Heap := (zH3 h o1 o2).push { cls := .type "tuple", data := .seq #[.none, .none] }
abbrev zH5 (h : Heap) (o1 o2 : Obj) : Heap := (zH4 h o1 o2).push { cls := .type "zip", data := .fields #[.none, .bool false, .bool false, .ref (zH2 h o1 o2).objs.size, .ref (zH3 h o1 o2).objs.size] }
theorem meets_zipS_new (u1 u2 : Value) (o1 o2 : Obj) :
    Meets (Builtin.«zip.__new__» ⟨[.type "zip", u1, u2], []⟩) (fun _ R s => Itrs u1 o1 s.heap ∧ Itrs u2 o2 (s.heap.push o1) ∧
      R (.ok (.ret (.ref (zH4 s.heap o1 o2).objs.size))) { s with heap := zH5 s.heap o1 o2 }) :=
  .of_wp fun prog w A R s h => by
    obtain ⟨hp, g, d, tk, os⟩ := s; obtain ⟨hl1, hl2, h⟩ := h
    have hsub := sub_zip
    have k1 : ∀ {A : Around} {E : Value → Shared → Prop} {Q : Value → Shared → Prop}, Q (.ref hp.objs.size) ⟨hp.push o1, g, d, tk, os⟩ → wpAny (model prog w) A (pyIter u1) Q E ⟨hp, g, d, tk, os⟩ := fun {A E Q} hQ => hl1 prog w A E Q ⟨hp, g, d, tk, os⟩ rfl hQ
    have k2 : ∀ {A : Around} {E : Value → Shared → Prop} {Q : Value → Shared → Prop}, Q (.ref (hp.push o1).objs.size) ⟨(hp.push o1).push o2, g, d, tk, os⟩ → wpAny (model prog w) A (pyIter u2) Q E ⟨hp.push o1, g, d, tk, os⟩ := fun {A E Q} hQ => hl2 prog w A E Q ⟨hp.push o1, g, d, tk, os⟩ rfl hQ
    wp_walk using k1, k2
    exact ⟨_, rfl, h⟩
section
variable {prog : Program} {w : World} {A : Around} {E : Value → Shared → Prop} {s : Shared}
theorem call_zipS {u1 u2 : Value} {o1 o2 : Obj} {Q : Value → Shared → Prop} (f1 : o1.isFreed = false) (f2 : o2.isFreed = false) (hl1 : Itrs u1 o1 s.heap) (hl2 : Itrs u2 o2 (s.heap.push o1))
    (h : ∀ h', IsZip h' (s.heap.objs.size + 4) (s.heap.objs.size + 2) (s.heap.objs.size + 3) .none → IsPair h' (s.heap.objs.size + 2) (.ref s.heap.objs.size) (.ref (s.heap.objs.size + 1)) →
      IsPair h' (s.heap.objs.size + 3) .none .none → h'.get? s.heap.objs.size = some o1 → h'.get? (s.heap.objs.size + 1) = some o2 → h'.objs.size = s.heap.objs.size + 5 →
      (∀ c o, s.heap.get? c = some o → h'.get? c = some o) → Q (.ref (s.heap.objs.size + 4)) { s with heap := h' }) :
    wpAny (model prog w) A (call (.type "zip") [u1, u2]) Q E s := by
  refine callType_new F.called_zip (by decide) (F.typeCall_zip_2 _ _) (F.newCall_zip_2 _ _) (fun obj => F.args_object_init_3 obj _ _) F.entry_zip_new
    (meets_zipS_new u1 u2 o1 o2) ⟨hl1, hl2, ?_⟩
  have z1 : (zH1 s.heap o1).objs.size = s.heap.objs.size + 1 := Heap.size_push ..
  have z2 : (zH2 s.heap o1 o2).objs.size = s.heap.objs.size + 2 := by rw [Heap.size_push, z1]
  have z3 : (zH3 s.heap o1 o2).objs.size = s.heap.objs.size + 3 := by rw [Heap.size_push, z2]
  have z4 : (zH4 s.heap o1 o2).objs.size = s.heap.objs.size + 4 := by rw [Heap.size_push, z3]
  have z5 : (zH5 s.heap o1 o2).objs.size = s.heap.objs.size + 5 := by rw [Heap.size_push, z4]
  have g5 : (zH5 s.heap o1 o2).get? (zH4 s.heap o1 o2).objs.size = some _ := Heap.get?_push_size _ rfl
  have g4 : (zH5 s.heap o1 o2).get? (zH3 s.heap o1 o2).objs.size = some _ := Heap.get?_push_of_some _ (Heap.get?_push_size _ rfl)
  have g3 : (zH5 s.heap o1 o2).get? (zH2 s.heap o1 o2).objs.size = some _ := Heap.get?_push_of_some _ (Heap.get?_push_of_some _ (Heap.get?_push_size _ rfl))
  have g2 : (zH5 s.heap o1 o2).get? (zH1 s.heap o1).objs.size = some _ := Heap.get?_push_of_some _ (Heap.get?_push_of_some _ (Heap.get?_push_of_some _ (Heap.get?_push_size _ f2)))
  have g1 : (zH5 s.heap o1 o2).get? s.heap.objs.size = some _ := Heap.get?_push_of_some _ (Heap.get?_push_of_some _ (Heap.get?_push_of_some _ (Heap.get?_push_of_some _ (Heap.get?_push_size _ f1))))
  show _ ∧ _
  rw [z2, z3, z4] at g5
  rw [z1, z2] at g3
  rw [z3] at g4
  rw [z1] at g2
  rw [z4]
  exact ⟨⟨_, g5, rfl⟩, h _ g5 g3 g4 g1 g2 z5 fun c o x =>
    Heap.get?_push_of_some _ (Heap.get?_push_of_some _ (Heap.get?_push_of_some _ (Heap.get?_push_of_some _ (Heap.get?_push_of_some _ x))))⟩
end
end DI
namespace DI
open PySem PySem.Spec PyProof.Rows L2
open PySem.Sem (wp)
open AutoSeq1 (wpAny_loadPart')
def Sr.RV (K : PySem.W.Frag) (H : Hp) (v : V) (xs : List V) (sr : Sr) : Prop := v = sr.val ∧ sr.at K H xs
def iZipS (K : PySem.W.Frag) (ta : TA) : TI := fun σ H R => ta σ H fun vs H1 => ∃ sa sb xs ys, vs = [sa.val, sb.val] ∧ sa.at K H1 xs ∧ sb.at K H1 ys ∧ R (ItzS K sa sb) H1
/-- the source's iterator -/
theorem Sr.start {X : Cx} {pins : List (Addr × Obj)} {σ : L2.St} {H : Hp} {s : Shared} {sr : Sr} {xs : List V} {u : Value} (I : Inv X pins σ H s) (h : sr.at X.K H xs) (r : RelV sr.val u) :
    ∃ o, o.isFreed = false ∧ (∀ h', (∀ c ob, s.heap.get? c = some ob → h'.get? c = some ob) → Itrs u o h') ∧ (∀ it h', h'.get? it = some o → sr.itr it 0 h') ∧ ∀ b, sr.isA b → b < s.heap.objs.size := by
  cases sr with
  | lst a =>
    cases r
    obtain ⟨its, rv, p, hz⟩ := I.list h
    exact ⟨_, rfl, fun h' k => Itrs.lst (p.isList.at fun o e => k a o e), fun it h' e => ⟨_, e, rfl, rfl⟩, fun b hb => by rw [show b = a from hb]; exact p.lt⟩
  | tup a =>
    cases r
    obtain ⟨its, rv, p, hz⟩ := I.tuple h
    have p' : s.heap.IsTuple a its.toArray := p
    exact ⟨_, rfl, fun h' k => Itrs.tup (p'.at fun o e => k a o e), fun it h' e => ⟨_, e, rfl, rfl⟩, fun b hb => by rw [show b = a from hb]; obtain ⟨o, ho, _⟩ := p'; exact Heap.lt_size ho⟩
  | str x =>
    obtain ⟨t, rfl⟩ := r
    exact ⟨_, rfl, fun h' k => Itrs.str, fun it h' e => ⟨t, _, e, rfl, rfl⟩, fun b hb => hb.elim⟩
theorem pi_zipS {X : Cx} {e e2 : Expr} {ta : TA} {p pos tpos : Pos} {elts : List Expr} {kk : Nat} (hg : Gl X "zip") (hm : X.mg "zip" = none) (ha : PA X [e, e2] ta)
    (hs : starEach [e, e2] X.env = (false, eval e X.env) :: starEach [e2] X.env := by rfl) (hpl : (backTo pos (starEach [e2] X.env)).any (·.1) = false := by rfl) :
    PI X (.Tuple elts kk tpos) (.Call (.Name "zip" p) [e, e2] [] pos) (iZipS X.K ta) := by
  refine ⟨fun pins s σ H R I h => ?_⟩
  refine Call_ (ld_blt I hg hm PyProof.Rows.boot_zip (PyProof.Rows.callWith_type1 (thn (ha.run pos pins s σ H _ I h) fun us s1 ⟨vs, H1, I1, r1, q1⟩ => ?_) hs hpl))
  obtain ⟨sa, sb, xs, ys, ex, hqx, hqy, q⟩ := q1
  subst ex
  cases r1 with
  | @cons _ u1 _ _ r rr =>
    cases rr with
    | @cons _ u2 _ _ r' rr =>
      cases rr
      obtain ⟨o1, f1, i1, st1, l1⟩ := Sr.start I1 hqx r
      obtain ⟨o2, f2, i2, st2, l2⟩ := Sr.start I1 hqy r'
      have fresh5 : ∀ c, c ∈ [s1.heap.objs.size + 4, s1.heap.objs.size + 2, s1.heap.objs.size + 3, s1.heap.objs.size, s1.heap.objs.size + 1] → FpOk X pins H1 c := fun c hcm => by
        have e' : c = s1.heap.objs.size + 4 ∨ c = s1.heap.objs.size + 2 ∨ c = s1.heap.objs.size + 3 ∨ c = s1.heap.objs.size ∨ c = s1.heap.objs.size + 1 := by simpa using hcm
        have hle : s1.heap.objs.size ≤ c := by
          rcases e' with z | z | z | z | z
          · rw [z]; exact Nat.le_add_right _ _
          · rw [z]; exact Nat.le_add_right _ _
          · rw [z]; exact Nat.le_add_right _ _
          · rw [z]; exact Nat.le_refl _
          · rw [z]; exact Nat.le_add_right _ _
        exact I1.fpOk hle (I1.hok.fresh hle)
      refine call_zipS f1 f2 (i1 _ fun _ _ e => e) (i2 _ fun c ob e => Heap.get?_push_of_some _ e) fun h' hz hTI hTO h1 h2 hsz hk => wpAny_pyIter_zip hz ?_
      have I2 : Inv X pins σ H1 { s1 with heap := h' } := I1.kept (t' := s1.toks) hk
      have ap : ZApart (s1.heap.objs.size + 4) (s1.heap.objs.size + 2) (s1.heap.objs.size + 3) s1.heap.objs.size (s1.heap.objs.size + 1) := by
        constructor <;> (intro z; simp at z)
      have ne : ∀ b, b < s1.heap.objs.size → b ≠ s1.heap.objs.size + 4 ∧ b ≠ s1.heap.objs.size + 3 ∧ b ≠ s1.heap.objs.size + 1 ∧ b ≠ s1.heap.objs.size := fun b hb =>
        ⟨Nat.ne_of_lt (Nat.lt_of_lt_of_le hb (Nat.le_add_right _ _)), Nat.ne_of_lt (Nat.lt_of_lt_of_le hb (Nat.le_add_right _ _)), Nat.ne_of_lt (Nat.lt_of_lt_of_le hb (Nat.le_add_right _ _)), Nat.ne_of_lt hb⟩
      exact ⟨s1.heap.objs.size + 4, [s1.heap.objs.size + 4, s1.heap.objs.size + 2, s1.heap.objs.size + 3, s1.heap.objs.size, s1.heap.objs.size + 1], _, _, H1, rfl, I2,
        turn_zipD ap (fun b hb => ⟨(ne b (l1 b hb)).1, (ne b (l1 b hb)).2.1, (ne b (l1 b hb)).2.2.1, (ne b (l1 b hb)).2.2.2⟩) (fun b hb => ⟨(ne b (l2 b hb)).1, (ne b (l2 b hb)).2.1, (ne b (l2 b hb)).2.2.2, (ne b (l2 b hb)).2.2.1⟩),
        ⟨hz, hTI, ⟨_, _, hTO⟩, st1 _ _ h1, st2 _ _ h2⟩, fresh5, q⟩

/-! ### enumerate -/
def IteS (K : PySem.W.Frag) (sr : Sr) : It :=
  ⟨fun i H => ∃ (xs : List V) (x : V), sr.at K H xs ∧ xs[i]? = some x, fun i H v H' => ∃ T x, v = .ref T ∧ H T = none ∧ H' = upd H T (.tup [.int (i : Nat), x]) ∧ ∀ xs, sr.at K H xs → xs[i]? = some x, fun i H => ∃ xs : List V, sr.at K H xs ∧ i = xs.length⟩
theorem turn_enumD {P : Program} {w : World} {K : PySem.W.Frag} {elts : List Expr} {kk : Nat} {tpos : Pos} (sr : Sr) (e it : Addr) (hne : e ≠ it) (n1 : ∀ b, sr.isA b → b ≠ e ∧ b ≠ it) :
    Turn P w K (.Tuple elts kk tpos) (IteS K sr) [e, it] e (fun i h => (∃ old, IsEnum h e it ((i : Nat) : Int) old) ∧ sr.itr it i h) where
  mem := by simp
  obj := fun i h st b hb => by
    obtain ⟨⟨old, he⟩, h1⟩ := st
    have e' : b = e ∨ b = it := by simpa using hb
    rcases e' with z | z
    · rw [z]; exact ⟨_, he, fun v q => nomatch q⟩
    · rw [z]; exact Sr.itr_obj h1
  keep := fun i h h' st k => let ⟨⟨old, he⟩, hi⟩ := st; ⟨⟨old, k e (by simp) _ he⟩, Sr.itr_at hi fun o q => k it (by simp) o q⟩
  item := by
    intro X hP hw hK hc i pins s σ H E I hf st hg
    subst hP hw hK
    obtain ⟨⟨old, he⟩, hit⟩ := st
    obtain ⟨xs, x, hq, hx⟩ := hg
    have hh : X.A.in1.handled = none := I.ok.hd hc
    obtain ⟨fp1, m1, P1, S1, d1, s1, e1, g1, j1, k1⟩ := Sr.draw I hh sr (fun b hb => (n1 b hb).2) hq hit
    have lx : i < xs.length := by
      by_cases q : i < xs.length
      · exact q
      · rw [List.getElem?_eq_none (by omega)] at hx; cases hx
    have hel : e < s.heap.objs.size := Heap.lt_size he
    have hil : it < s.heap.objs.size := by obtain ⟨_, q, _⟩ := Sr.itr_obj hit; exact Heap.lt_size q
    have hef : e ∉ fp1 := fun q => (k1 _ q).elim (fun r => hne r) fun r => (n1 _ r).1 rfl
    refine wpAny_pyNext_enum_itemD d1 he s1 (by omega) hne hef fun u h' tk p1 ho hit' hT hsz hk => ?_
    obtain ⟨x', hx', ru⟩ := g1 _ _ p1
    rw [hx] at hx'
    cases hx'
    refine ⟨_, rfl, wpAny_letOwnedTupleGo_enum (s := { s with heap := h', toks := tk + 1 }) ho fun h'' he' sb => ?_⟩
    have hT2 : h''.get? s.heap.objs.size = some { cls := .type "tuple", data := .seq #[.int i tk, u] } := (sb.2 _ (Nat.ne_of_gt hel)).trans hT
    have new : ObjOk X.prog X.w (upd H s.heap.objs.size (.tup [.int (i : Nat), x])) h'' s.heap.objs.size (.tup [.int (i : Nat), x]) :=
      ⟨by show 2 ≤ sizeLine; decide, [.int i tk, u], .cons ⟨_, rfl⟩ (.cons ru .nil), ⟨_, hT2, rfl, _, rfl⟩⟩
    have I1 : Inv X pins σ (upd H s.heap.objs.size (.tup [.int (i : Nat), x])) { s with heap := h'', toks := tk + 1 } :=
      I.turnedNew (ch := [e, it]) (fun b ob hb q => (sb.2 b (fun z => hb (by simp [z]))).trans (hk b ob (fun z => hb (by simp [z])) (fun z => hb (by simp [z])) q)) hf (Nat.le_refl _) new
    refine ⟨.ref s.heap.objs.size, _, I1, rfl, ⟨_, x, rfl, I.hok.fresh (Nat.le_refl _), rfl, fun ys hy => by rw [Sr.at_inj I hy hq]; exact hx⟩, ⟨⟨u, ?_⟩, Sr.itr_at (j1 _ _ hit') fun o q => (sb.2 it (Ne.symm hne)).trans q⟩, fun b hb => ?_⟩
    · have e1 : ((i + 1 : Nat) : Int) = (i : Int) + 1 := by omega
      rw [e1]; exact he'
    · have hb' : b < s.heap.objs.size := by
        have e' : b = e ∨ b = it := by simpa using hb
        rcases e' with z | z
        · rw [z]; exact hel
        · rw [z]; exact hil
      rw [upd_ne (Nat.ne_of_lt hb')]
      exact (hf b hb).1
  done := by
    intro X hP hw hK hc i pins s σ H E I hf st hg
    subst hP hw hK
    obtain ⟨⟨old, he⟩, hit⟩ := st
    obtain ⟨xs, hq, hx⟩ := hg
    have hh : X.A.in1.handled = none := I.ok.hd hc
    obtain ⟨fp1, m1, P1, S1, d1, s1, e1, g1, j1, k1⟩ := Sr.draw I hh sr (fun b hb => (n1 b hb).2) hq hit
    obtain ⟨f0, f1, f2, f3, f4, f5⟩ := hf it (by simp)
    subst hx
    have s1' : S1 m1 s.heap := by rw [e1]; exact s1
    exact wpAny_pyNext_enum_endD d1 he s1' fun h' eb => ⟨rfl, I.turned (t' := s.toks) (fun b o hb q => eb b o hb q) f0 f1 f3 f4 f5⟩
  self := fun A i s Q E st h => let ⟨⟨_, he⟩, _⟩ := st; wpAny_pyIter_enum he h
theorem meets_enumerate_newT' (l : Addr) (items : Array Value) (n : Nat) (dct : Option Addr) (sl : Array (Option Value)) :
    Meets (Builtin.«enumerate.__new__» ⟨[.type "enumerate", .ref l], []⟩) (fun _ R s => s.heap.get? l = some { cls := .type "tuple", dict := dct, data := .seq items n, slots := sl } ∧
      R (.ok (.ret (.ref (s.heap.push { cls := .type "tuple_iterator", data := .fields #[.ref l, .int 0 0] }).objs.size)))
        { s with heap := (s.heap.push { cls := .type "tuple_iterator", data := .fields #[.ref l, .int 0 0] }).push { cls := .type "enumerate", data := .fields #[.none, .bool false, .ref s.heap.objs.size, rawInt 0, .none, .none] } }) :=
  .of_wp fun prog w A R s h => by
    obtain ⟨hp, g, d, tk, os⟩ := s; obtain ⟨hl, h⟩ := h
    have hsub := sub_enumerate
    have hL : Heap.IsTuple (Shared.heap ⟨hp, g, d, tk, os⟩) l items := ⟨_, hl, rfl, n, rfl⟩
    wp_walk using wpAny_loadPart' hl
    refine wpAny_stack_any fun st => wpAny_pure ?_
    split
    · rename_i c _ _ _ _ _
      cases (c == Value.type "enumerate")
      · wp_walk using wpAny_loadPart' hl, wpAny_pyIter_tuple hL
        exact ⟨_, rfl, h⟩
      · wp_walk using wpAny_loadPart' hl, wpAny_pyIter_tuple hL
        exact ⟨_, rfl, h⟩
    · wp_walk using wpAny_loadPart' hl, wpAny_pyIter_tuple hL
      exact ⟨_, rfl, h⟩
end DI
namespace DI
open PySem PySem.Spec PyProof.Rows L2
open PySem.Sem (wp)
section
variable {prog : Program} {w : World} {A : Around} {E : Value → Shared → Prop} {s : Shared}
theorem call_enumerate_tuple {l : Addr} {items : Array Value} {Q : Value → Shared → Prop} (hL : s.heap.IsTuple l items)
    (h : ∀ h', IsEnum h' (s.heap.objs.size + 1) s.heap.objs.size 0 .none → h'.IsTupleIter s.heap.objs.size l 0 → h'.objs.size = s.heap.objs.size + 2 →
      (∀ b o, s.heap.get? b = some o → h'.get? b = some o) → Q (.ref (s.heap.objs.size + 1)) { s with heap := h' }) :
    wpAny (model prog w) A (call (.type "enumerate") [.ref l]) Q E s := by
  obtain ⟨⟨c, dct, dt, sl⟩, hl, hc, n, hd⟩ := hL
  replace hc : c = .type "tuple" := hc
  replace hd : dt = .seq items n := hd
  subst hc hd
  refine callType_new F.called_enumerate (by decide) (F.typeCall_enumerate_1 _) (F.newCall_enumerate_1 _) (fun obj => F.args_object_init_2 obj _) F.entry_enumerate_new
    (meets_enumerate_newT' l items n dct sl) ⟨hl, ?_⟩
  have hz : (s.heap.push { cls := .type "tuple_iterator", data := .fields #[.ref l, .int 0 0] }).objs.size = s.heap.objs.size + 1 := Heap.size_push ..
  show _ ∧ _
  rw [hz]
  have he : IsEnum ((s.heap.push { cls := .type "tuple_iterator", data := .fields #[.ref l, .int 0 0] }).push
      { cls := .type "enumerate", data := .fields #[.none, .bool false, .ref s.heap.objs.size, rawInt 0, .none, .none] }) (s.heap.objs.size + 1) s.heap.objs.size 0 .none := by
    have := Heap.get?_push_size (s.heap.push { cls := .type "tuple_iterator", data := .fields #[.ref l, .int 0 0] })
      (o := { cls := .type "enumerate", data := .fields #[.none, .bool false, .ref s.heap.objs.size, rawInt 0, .none, .none] }) rfl
    rw [hz] at this; exact this
  refine ⟨⟨_, he, rfl⟩, h _ he ⟨_, Heap.get?_push_of_some _ (Heap.get?_push_size _ rfl), rfl, rfl⟩ (by rw [Heap.size_push, hz]) fun b o x => Heap.get?_push_of_some _ (Heap.get?_push_of_some _ x)⟩
end
def iEnumS (K : PySem.W.Frag) (ta : TA) : TI := fun σ H R => ta σ H fun vs H1 => ∃ sr xs, vs = [sr.val] ∧ sr.at K H1 xs ∧ R (IteS K sr) H1
theorem pi_enumS {X : Cx} {e : Expr} {ta : TA} {p pos tpos : Pos} {elts : List Expr} {kk : Nat} (hg : Gl X "enumerate") (hm : X.mg "enumerate" = none) (ha : PA X [e] ta) (hs : starEach [e] X.env = [(false, eval e X.env)] := by rfl) :
    PI X (.Tuple elts kk tpos) (.Call (.Name "enumerate" p) [e] [] pos) (iEnumS X.K ta) := by
  refine ⟨fun pins s σ H R I h => ?_⟩
  refine Call_ (ld_blt I hg hm boot_enumerate (PyProof.Rows.callWith_type1 (thn (ha.run pos pins s σ H _ I h) fun us s1 ⟨vs, H1, I1, r1, q1⟩ => ?_) hs rfl))
  obtain ⟨sr, xs, ex, hq, q⟩ := q1
  subst ex
  cases r1 with
  | @cons _ u _ _ r rr =>
    cases rr
    have fin : ∀ h', IsEnum h' (s1.heap.objs.size + 1) s1.heap.objs.size 0 .none → sr.itr s1.heap.objs.size 0 h' → (∀ b, sr.isA b → b < s1.heap.objs.size) → (∀ b o, s1.heap.get? b = some o → h'.get? b = some o) →
        wpAny (model X.prog X.w) X.A (pyIter (.ref (s1.heap.objs.size + 1))) (PIE X pins σ (.Tuple elts kk tpos) R) X.xe { s1 with heap := h' } := fun h' he hit hlt hk => by
      refine wpAny_pyIter_enum he ?_
      have I2 : Inv X pins σ H1 { s1 with heap := h' } := I1.kept (t' := s1.toks) hk
      refine ⟨s1.heap.objs.size + 1, [s1.heap.objs.size + 1, s1.heap.objs.size], _, _, H1, rfl, I2, turn_enumD sr (s1.heap.objs.size + 1) s1.heap.objs.size (Nat.succ_ne_self _) (fun b hb => ⟨Nat.ne_of_lt (Nat.lt_succ_of_lt (hlt b hb)), Nat.ne_of_lt (hlt b hb)⟩), ⟨⟨.none, he⟩, hit⟩, fun b hb => ?_, q⟩
      have e' : b = s1.heap.objs.size + 1 ∨ b = s1.heap.objs.size := by simpa using hb
      have hle : s1.heap.objs.size ≤ b := by
        rcases e' with z | z
        · rw [z]; exact Nat.le_add_right _ _
        · rw [z]; exact Nat.le_refl _
      exact I1.fpOk hle (I1.hok.fresh hle)
    cases sr with
    | lst a =>
      cases r
      obtain ⟨its, rv, p', hz⟩ := I1.list hq
      exact call_enumerate_list p'.isList fun h' he hit hsz hk => fin h' he hit (fun b hb => by rw [show b = a from hb]; exact p'.lt) hk
    | tup a =>
      cases r
      obtain ⟨its, rv, p', hz⟩ := I1.tuple hq
      have p2 : s1.heap.IsTuple a its.toArray := p'
      exact call_enumerate_tuple p2 fun h' he hit hsz hk => fin h' he hit (fun b hb => by rw [show b = a from hb]; obtain ⟨o, ho, _⟩ := p2; exact Heap.lt_size ho) hk
    | str x =>
      obtain ⟨t, rfl⟩ := r
      exact call_enumerate_str fun h' he hit hsz hk => fin h' he ⟨t, hit⟩ (fun b hb => hb.elim) hk

/-! ### data -/
theorem Sr.sub {K : PySem.W.Frag} {G H : Hp} {xs : List V} {sr : Sr} (s : Sub G H) (h : sr.at K G xs) : sr.at K H xs := by
  cases sr with
  | lst a => exact s.sql h
  | tup a => exact s.sqt h
  | str x => exact h
theorem repAll_str {K : Kx} {G : Hp} : ∀ (s : List Char), RepAll K G ((txt s).cps.toList.map fun c => .str ⟨#[c]⟩) (s.map fun c => .str [c]) := by
  intro s
  have e : (txt s).cps.toList = s.map Char.toNat := by simp [txt]
  rw [e, List.map_map]
  induction s with
  | nil => exact .nil
  | cons c s ih => exact .cons (.str [c]) (ih (by simp [txt]))
theorem Sr.of {K : Kx} {G : Hp} {v : V} {x : D} {xs : List D} (r : Rep K G v x) (h : itD x = some xs) : ∃ (sr : Sr) (vs : List V), v = sr.val ∧ sr.at K.K G vs ∧ RepAll K G vs xs := by
  cases r with
  | lst a b => cases h; exact ⟨.lst _, _, rfl, a, b⟩
  | tup a b => cases h; exact ⟨.tup _, _, rfl, a, b⟩
  | str s => cases h; exact ⟨.str _, _, rfl, rfl, repAll_str s⟩
  | non => cases h
  | bl _ => cases h
  | int _ => cases h
  | dct _ _ _ _ => cases h
  | ins _ _ _ _ _ => cases h
theorem walkD_zip {K : Kx} {G : Hp} {sa sb : Sr} {vs us : List V} {xs ys : List D} (h1 : sa.at K.K G vs) (h2 : sb.at K.K G us) (r1 : RepAll K G vs xs) (r2 : RepAll K G us ys) :
    WalkD K G (ItzS K.K sa sb) ((xs.zip ys).map fun p => .tup [p.1, p.2]) where
  goes := fun i G' ι m H hi s g => by
    rw [List.length_map, List.length_zip, ← r1.length, ← r2.length] at hi
    have a1 : i < vs.length := by omega
    have a2 : i < us.length := by omega
    exact ⟨vs, us, vs[i], us[i], Sr.sub g.sub (Sr.sub s h1), Sr.sub g.sub (Sr.sub s h2), by simp [a1], by simp [a2]⟩
  stops := fun G' ι m H s g => ⟨vs, us, Sr.sub g.sub (Sr.sub s h1), Sr.sub g.sub (Sr.sub s h2), by rw [List.length_map, List.length_zip, r1.length, r2.length]⟩
  yields := fun i G' ι m H v H' hi s g y => by
    obtain ⟨T, x, y', rfl, hT, rfl, f1, f2⟩ := y
    have e1 := f1 vs (Sr.sub g.sub (Sr.sub s h1))
    have e2 := f2 us (Sr.sub g.sub (Sr.sub s h2))
    obtain ⟨d1, a1, b1⟩ := r1.getV e1
    obtain ⟨d2, a2, b2⟩ := r2.getV e2
    obtain ⟨g1, x1⟩ := g.lay hT (.tup [x, y'])
    refine ⟨_, .tup [d1, d2], ?_, x1, g1, .tup (SqT.of upd_same) (.cons (Rep.mono (s.trans x1.sub) b1) (.cons (Rep.mono (s.trans x1.sub) b2) .nil))⟩
    rw [List.getElem?_map, List.getElem?_zip_eq_some (z := (d1, d2)) |>.mpr ⟨a1, a2⟩] <;> rfl
theorem walkD_enum {K : Kx} {G : Hp} {sr : Sr} {vs : List V} {xs : List D} (h1 : sr.at K.K G vs) (r1 : RepAll K G vs xs) :
    WalkD K G (IteS K.K sr) (xs.mapIdx fun i x => .tup [.int i, x]) where
  goes := fun i G' ι m H hi s g => by
    rw [List.length_mapIdx, ← r1.length] at hi
    exact ⟨vs, vs[i], Sr.sub g.sub (Sr.sub s h1), by simp [hi]⟩
  stops := fun G' ι m H s g => ⟨vs, Sr.sub g.sub (Sr.sub s h1), by rw [List.length_mapIdx, r1.length]⟩
  yields := fun i G' ι m H v H' hi s g y => by
    obtain ⟨T, x, rfl, hT, rfl, f1⟩ := y
    have e1 := f1 vs (Sr.sub g.sub (Sr.sub s h1))
    obtain ⟨d1, a1, b1⟩ := r1.getV e1
    obtain ⟨g1, x1⟩ := g.lay hT (.tup [.int (i : Nat), x])
    refine ⟨_, .tup [.int i, d1], ?_, x1, g1, .tup (SqT.of upd_same) (.cons (.int _) (.cons (Rep.mono (s.trans x1.sub) b1) .nil))⟩
    rw [List.getElem?_mapIdx, a1] <;> rfl
section
variable {X : Cx} {W : XK} {a b : Expr} {fa fb f : SE} {p pos tpos : Pos} {elts : List Expr} {kk : Nat}
theorem si_zip (hm : X.mg "zip" = none) (h : SEx X W a fa) (h' : SEx X W b fb) (hg : Gl X "zip" := by rfl) (hs : starEach [a, b] X.env = (false, eval a X.env) :: starEach [b] X.env := by rfl) (hs2 : starEach [b] X.env = [(false, eval b X.env)] := by rfl)
    (hpl : (backTo pos (starEach [b] X.env)).any (·.1) = false := by rfl) : SIx X W (.Tuple elts kk tpos) (.Call (.Name "zip" p) [a, b] [] pos) (iZip fa fb) := by
  refine ⟨pi_weak (pi_zipS hg hm (pa_cons h.pe (pa_cons h'.pe pa_nil hs2) hs) hs hpl) fun σ H R ⟨G, ι, ρ, m, g, ev, q⟩ => ?_⟩
  have p' : PostG X (fun G _ J xs => WalkD X.kx G J xs) W G ι H ((fa ρ m).bind fun x m => (fb ρ m).bind fun y m => match x, y with
    | .d x, .d y => (match itD x, itD y with
      | some xs, some ys => .ok ((xs.zip ys).map fun p => .tup [p.1, p.2]) m
      | _, _ => .no)
    | _, _ => .no) R := q
  refine tE_mono (step_e g ev p') fun v H1 ⟨G1, ι1, m1, x, x1, g1, ev1, r1, _, p1⟩ => ?_
  refine tE_mono (step_e g1 ev1 p1) fun u H2 ⟨G2, ι2, m2, y, x2, g2, ev2, r2, _, p2⟩ => ?_
  have r1 := r1.ext x2
  match x, y, p2, r1, r2 with
  | .d x, .d y, p2, r1, r2 =>
    have p3 : PostG X (fun G _ J xs => WalkD X.kx G J xs) W G2 ι2 H2 (match itD x, itD y with
      | some xs, some ys => .ok ((xs.zip ys).map fun p => .tup [p.1, p.2]) m2
      | _, _ => .no) R := p2
    cases h1 : itD x with
    | none => rw [h1] at p3; exact p3.elim
    | some xs =>
      cases h2 : itD y with
      | none => rw [h1, h2] at p3; exact p3.elim
      | some ys =>
        rw [h1, h2] at p3
        obtain ⟨sa, vs, rfl, t1, w1⟩ := Sr.of r1 h1
        obtain ⟨sb, us, rfl, t2, w2⟩ := Sr.of r2 h2
        exact ⟨sa, sb, vs, us, rfl, Sr.sub g2.sub t1, Sr.sub g2.sub t2, p3 _ G2 ι2 H2 (Ext.refl ..) g2 (walkD_zip t1 t2 w1 w2)⟩
  | .obj _, _, p2, _, _ => exact p2.elim
  | .raw _, _, p2, _, _ => exact p2.elim
  | .d _, .obj _, p2, _, _ => exact p2.elim
theorem si_enum (hm : X.mg "enumerate" = none) (h : SEx X W a fa) (hg : Gl X "enumerate" := by rfl) (hs : starEach [a] X.env = [(false, eval a X.env)] := by rfl) : SIx X W (.Tuple elts kk tpos) (.Call (.Name "enumerate" p) [a] [] pos) (iEnum fa) := by
  refine ⟨pi_weak (pi_enumS hg hm (pa_cons h.pe pa_nil hs) hs) fun σ H R ⟨G, ι, ρ, m, g, ev, q⟩ => ?_⟩
  have p' : PostG X (fun G _ J xs => WalkD X.kx G J xs) W G ι H ((fa ρ m).bind fun x m => match x with
    | .d x => (match itD x with
      | some xs => .ok (xs.mapIdx fun i x => .tup [.int i, x]) m
      | none => .no)
    | _ => .no) R := by
    have e : iEnum fa ρ m = ((fa ρ m).bind fun x m => match x with
    | .d x => (match itD x with
      | some xs => .ok (xs.mapIdx fun i x => .tup [.int i, x]) m
      | none => .no)
    | _ => .no) := by
      unfold iEnum iV
      cases fa ρ m with
      | no => rfl
      | ex _ _ => rfl
      | ok x m1 =>
        rw [Res.bind_ok, Res.bind_ok]
        cases x with
        | obj _ => rfl
        | raw _ => rfl
        | d x =>
          show Res.bind (match itD x with
            | some xs => .ok xs m1
            | none => .no) (fun xs m => .ok (xs.mapIdx fun (i : Nat) x => D.tup [D.int i, x]) m) = (match itD x with
            | some xs => Res.ok (xs.mapIdx fun (i : Nat) x => D.tup [D.int i, x]) m1
            | none => .no)
          cases itD x with
          | none => rfl
          | some xs => rfl
    rw [← e]
    exact q
  refine tE_mono (step_e g ev p') fun v H1 ⟨G1, ι1, m1, x, x1, g1, ev1, r1, _, p1⟩ => ?_
  match x, p1, r1 with
  | .d x, p1, r1 =>
    have p3 : PostG X (fun G _ J xs => WalkD X.kx G J xs) W G1 ι1 H1 (match itD x with
      | some xs => .ok (xs.mapIdx fun i x => .tup [.int i, x]) m1
      | none => .no) R := p1
    cases h1 : itD x with
    | none => rw [h1] at p3; exact p3.elim
    | some xs =>
      rw [h1] at p3
      obtain ⟨sa, vs, rfl, t1, w1⟩ := Sr.of r1 h1
      exact ⟨sa, vs, rfl, Sr.sub g1.sub t1, p3 _ G1 ι1 H1 (Ext.refl ..) g1 (walkD_enum t1 w1)⟩
  | .obj _, p1, _ => exact p1.elim
  | .raw _, p1, _ => exact p1.elim
end
end DI
namespace DI
open PySem PySem.Spec PyProof.Rows L2
theorem tuple_mulS (l : Addr) (items : Array Value) (n : Nat) (dd : Option Addr) (sl : Array (Option Value)) (x : Int) (u : Tok) (c0 : (decide (x < -(2 ^ 63)) || decide (x ≥ 2 ^ 63)) = false) (c1 : (items.isEmpty || x == 1) = true) :
    Meets (Builtin.«tuple.__mul__» ⟨[.ref l, .int x u], []⟩) (fun _ R s => s.heap.get? l = some { cls := .type "tuple", dict := dd, data := .seq items n, slots := sl } ∧
      R (.ok (.ret (Value.ref l))) s) :=
  .of_wp fun prog w A R s h => by
    obtain ⟨hp, g, d, tk, os⟩ := s
    obtain ⟨hl, h⟩ := h
    have f1 := AutoSeq1.idx_int
    wp_walk using wpAny_loadPart' hl
    repeat (first
      | (refine wpAny_ite_false (decide_eq_false (by rw [c0]; exact Bool.false_ne_true)) ?_; wp_walk using wpAny_loadPart' hl)
      | (refine wpAny_ite_true (decide_eq_true c1) ?_; wp_walk using wpAny_loadPart' hl))
    exact ⟨_, rfl, h⟩
theorem tuple_mulN (l : Addr) (items : Array Value) (n : Nat) (dd : Option Addr) (sl : Array (Option Value)) (x : Int) (u : Tok) (c0 : (decide (x < -(2 ^ 63)) || decide (x ≥ 2 ^ 63)) = false) (c1 : (items.isEmpty || x == 1) = false) (c2 : (decide (x ≤ 0) || items.isEmpty) = true) :
    Meets (Builtin.«tuple.__mul__» ⟨[.ref l, .int x u], []⟩) (fun _ R s => s.heap.get? l = some { cls := .type "tuple", dict := dd, data := .seq items n, slots := sl } ∧
      R (.ok (.ret (Value.ref s.heap.objs.size))) { s with heap := s.heap.push { cls := Value.type "tuple", data := Data.seq #[] }, toks := s.toks }) :=
  .of_wp fun prog w A R s h => by
    obtain ⟨hp, g, d, tk, os⟩ := s
    obtain ⟨hl, h⟩ := h
    have f1 := AutoSeq1.idx_int
    wp_walk using wpAny_loadPart' hl
    repeat (first
      | (refine wpAny_ite_false (decide_eq_false (by rw [c0]; exact Bool.false_ne_true)) ?_; wp_walk using wpAny_loadPart' hl)
      | (refine wpAny_ite_false (decide_eq_false (by rw [c1]; exact Bool.false_ne_true)) ?_; wp_walk using wpAny_loadPart' hl)
      | (refine wpAny_ite_true (decide_eq_true c2) ?_; wp_walk using wpAny_loadPart' hl))
    exact ⟨_, rfl, h⟩
section
variable {X : Cx}
def rRepS (K : PySem.W.Frag) : R2 := fun x y H Q => ∃ l k xs, x = .ref l ∧ y = .int k ∧ SqT K H l xs ∧ (xs = [] ∨ k = 1) ∧ -(2 ^ 63) ≤ k ∧ k < 2 ^ 63 ∧ Q (.ref l) H
def rRepN (K : PySem.W.Frag) : R2 := fun x y H Q => ∃ l k xs, x = .ref l ∧ y = .int k ∧ SqT K H l xs ∧ xs ≠ [] ∧ k ≤ 0 ∧ -(2 ^ 63) ≤ k ∧ ∀ p, H p = none → Q (.ref p) (upd H p (.tup []))
theorem int_rmul_tup (k : Int) (t : Tok) {s : Shared} {l : Addr} {its : List Value} {n : Nat} {dd : Option Addr} {sl : Array (Option Value)} (ho : s.heap.get? l = some { cls := .type "tuple", dict := dd, data := .seq its.toArray n, slots := sl }) : True := trivial
theorem op_repS : OpR X (binaryOp .Mult) (rRepS X.K) := by
  intro pins s σ H x y v u Q I rx ry h
  obtain ⟨l, k, xs, rfl, rfl, hT, hne, h1, h2, q⟩ := h
  cases rx
  obtain ⟨t, rfl⟩ := ry
  obtain ⟨its, r, ⟨⟨cls, dd, data, sl⟩, ho, hc, n, hd⟩, hs⟩ := I.tuple hT
  simp only at hc hd
  subst hc hd
  have c0 : (decide (k < -(2 ^ 63)) || decide (k ≥ 2 ^ 63)) = false := by
    rw [decide_eq_false (by omega), decide_eq_false (by omega)] <;> rfl
  have c1 : (its.toArray.isEmpty || k == 1) = true := by
    rcases hne with rfl | rfl
    · cases r; rfl
    · simp
  exact wpAny_binaryOp_repeat_ref (T := "tuple") (U := "int") (by decide) ⟨_, ho, rfl⟩ (fun s' => typeIs_int s' k t) noFill_tuple_mul F.fills_int_mul F.slot_int_rmul repeat_tuple F.slot_int_index.lookup
    (call_meets F.slot_int_rmul (typeIs_int s k t) F.entry_int_rmul (F.args_int_rmul_2 _ _) (int_rmul_tuple k t l its.toArray n dd sl)
      ⟨ho, rfl, ⟨_, ho, rfl⟩, call_meets F.slot_tuple_mul ⟨_, ho, rfl⟩ F.entry_tuple_mul (F.args_tuple_mul_2 _ _) (tuple_mulS l its.toArray n dd sl k t c0 c1) ⟨ho, .ref l, H, I, rfl, q⟩⟩)
theorem op_repN : OpR X (binaryOp .Mult) (rRepN X.K) := by
  intro pins s σ H x y v u Q I rx ry h
  obtain ⟨l, k, xs, rfl, rfl, hT, hne, h1, h2, q⟩ := h
  cases rx
  obtain ⟨t, rfl⟩ := ry
  obtain ⟨its, r, ⟨⟨cls, dd, data, sl⟩, ho, hc, n, hd⟩, hs⟩ := I.tuple hT
  simp only at hc hd
  subst hc hd
  have hi : its.toArray.isEmpty = false := by
    cases r with
    | nil => exact absurd rfl hne
    | cons a b => rfl
  have c0 : (decide (k < -(2 ^ 63)) || decide (k ≥ 2 ^ 63)) = false := by
    rw [decide_eq_false (by omega), decide_eq_false (by omega)] <;> rfl
  have c1 : (its.toArray.isEmpty || k == 1) = false := by
    rw [hi, Bool.false_or]
    exact beq_eq_false_iff_ne.mpr (by omega)
  have c2 : (decide (k ≤ 0) || its.toArray.isEmpty) = true := by
    rw [decide_eq_true h1] <;> rfl
  refine wpAny_binaryOp_repeat_ref (T := "tuple") (U := "int") (by decide) ⟨_, ho, rfl⟩ (fun s' => typeIs_int s' k t) noFill_tuple_mul F.fills_int_mul F.slot_int_rmul repeat_tuple F.slot_int_index.lookup
    (call_meets F.slot_int_rmul (typeIs_int s k t) F.entry_int_rmul (F.args_int_rmul_2 _ _) (int_rmul_tuple k t l its.toArray n dd sl)
      ⟨ho, rfl, ⟨_, ho, rfl⟩, call_meets F.slot_tuple_mul ⟨_, ho, rfl⟩ F.entry_tuple_mul (F.args_tuple_mul_2 _ _) (tuple_mulN l its.toArray n dd sl k t c0 c1 c2) ⟨ho, ?_⟩⟩)
  refine ⟨.ref s.heap.objs.size, _, I.laid (t' := s.toks) (o := .tup []) (fun b ob q => Heap.get?_push_of_some _ q) (Nat.le_refl _) ?_, rfl, q _ (I.hok.fresh (Nat.le_refl _))⟩
  exact ⟨Nat.zero_le _, [], .nil, IsTup.new _ _⟩
def rMulStr : R2 := fun x y H Q => ∃ t k, x = .str t ∧ y = .int k ∧ MulOk t k ∧ Q (.str (Txt.mul t k)) H
theorem op_mulStr : OpR X (binaryOp .Mult) rMulStr := by
  intro pins s σ H x y v u Q I rx ry h
  obtain ⟨t, k, rfl, rfl, hm, q⟩ := h
  obtain ⟨t1, rfl⟩ := rx
  obtain ⟨t2, rfl⟩ := ry
  exact SB.mul hm fun t' tk => ⟨.str _, H, I.tok _, ⟨_, rfl⟩, q⟩
def rMulD (K : PySem.W.Frag) : R2 := fun x y H Q => rI CMul (fun i j => .int (i * j)) x y H Q ∨ rMulStr x y H Q ∨ rRepT K x y H Q ∨ rRepS K x y H Q ∨ rRepN K x y H Q
theorem op_mulD : OpR X (binaryOp .Mult) (rMulD X.K) := op_mul.or (op_mulStr.or (op_repT.or (op_repS.or op_repN)))
end
end DI
namespace DI
open PySem PySem.Spec PyProof.Rows L2
theorem foldl_repN (its : List Nat) : ∀ (k : Nat) (acc : List Nat), List.foldl (fun x1 x2 => x1 ++ x2) acc.toArray (List.replicate k its.toArray) = (acc ++ (List.replicate k its).flatten).toArray
  | 0, acc => by simp
  | k + 1, acc => by
    have e : acc.toArray ++ its.toArray = (acc ++ its).toArray := by simp
    have e2 : (acc ++ its) ++ (List.replicate k its).flatten = acc ++ (List.replicate (k + 1) its).flatten := by
      simp [List.replicate_succ]
    rw [← e2, ← foldl_repN its k (acc ++ its), ← e, List.replicate_succ, List.foldl_cons]
theorem txt_mul (s : List Char) (k : Int) : Txt.mul (txt s) k = txt (List.replicate k.toNat s).flatten := by
  unfold Txt.mul
  by_cases h1 : k < 1
  · rw [if_pos h1, show k.toNat = 0 by omega]; rfl
  · rw [if_neg h1]
    by_cases h2 : (k == 1 || (txt s).length == 0) = true
    · rw [if_pos h2]
      rw [Bool.or_eq_true] at h2
      rcases h2 with h2 | h2
      · have : k = 1 := eq_of_beq h2
        subst this
        show txt s = txt (List.replicate 1 s).flatten
        simp [List.replicate]
      · have h3 : (txt s).length = 0 := eq_of_beq h2
        rw [txt_length] at h3
        have : s = [] := List.eq_nil_of_length_eq_zero h3
        subst this
        congr 1
        induction k.toNat with
        | zero => rfl
        | succ n ih => rw [List.replicate_succ, List.flatten_cons, ← ih]; rfl
    · rw [if_neg h2]
      have := foldl_repN (s.map Char.toNat) k.toNat []
      show Str.mk (List.foldl (fun x1 x2 => x1 ++ x2) #[] (List.replicate k.toNat (s.map Char.toNat).toArray)) = txt _
      rw [show (#[] : Array Nat) = ([] : List Nat).toArray from rfl, this]
      simp [txt, List.map_flatten]
section
variable {X : Cx} {W : XK} {a b c e elt tg iter : Expr} {es rest ifs : List Expr} {fa fb fc f fe : SE} {pos p : Pos} {G H : Hp} {ι : Io} {ρ : Env} {m : Mem} {σ : L2.St} {st : Stmt} {sts : List Stmt}
theorem ds_mulD : Op2 X dMulD (rMulD X.K) := by
  intro G ι m H v u x y d Q g rx ry e fin
  cases x with
  | int i =>
    cases y with
    | int j => exact .inl (ds_mul g rx ry e fin)
    | _ => cases e
  | str s =>
    cases y with
    | int k =>
      cases (show v = .str (txt s) from rx)
      cases (show u = .int k from ry)
      obtain ⟨h, e⟩ := ite_some e
      cases e
      refine .inr (.inl ⟨_, _, rfl, rfl, ⟨?_, fun h1 h2 => ?_, fun h1 h2 => ?_⟩, ?_⟩)
      · rw [decide_eq_false (by omega), decide_eq_false (by omega)] <;> rfl
      · rw [txt_length]
        have h3 := h.2.2
        have hk : 1 ≤ k := by omega
        have h4 : ((s.length : Nat) : Int) * k ≤ 16777216 := by
          have : ((s.length * k.toNat : Nat) : Int) ≤ 16777216 := by unfold lineL at h3; omega
          rw [Int.natCast_mul, Int.toNat_of_nonneg (by omega)] at this
          exact this
        have h5 : ((s.length : Nat) : Int) ≤ (2 ^ 63 - 1) / k := (Int.le_ediv_iff_mul_le (by omega)).mpr (by omega)
        omega
      · rw [txt_length]
        have h3 := h.2.2
        unfold Builtin.Str.tooLong
        rw [← lineL_eq]
        exact decide_eq_false (by omega)
      · rw [txt_mul]
        exact fin.here g (.str _)
    | _ => cases e
  | tup xs =>
    cases y with
    | int k =>
      obtain ⟨a, vs, rfl, h1, r1⟩ := rx
      cases (show u = .int k from ry)
      obtain ⟨h, e⟩ := ite_some e
      cases e
      by_cases hs : vs = [] ∨ k = 1
      · refine .inr (.inr (.inr (.inl ⟨a, k, vs, rfl, rfl, g.sub.sqt h1, hs, by omega, by omega, fin.here g ?_⟩)))
        have e2 : (List.replicate k.toNat xs).flatten = xs := by
          rcases hs with rfl | rfl
          · cases r1
            induction k.toNat with
            | zero => rfl
            | succ n ih => rw [List.replicate_succ, List.flatten_cons, ih]; rfl
          · show (List.replicate 1 xs).flatten = xs
            simp [List.replicate]
        rw [e2]
        exact .tup h1 r1
      · have hne : vs ≠ [] := fun z => hs (.inl z)
        have hk1 : k ≠ 1 := fun z => hs (.inr z)
        by_cases hk : k ≤ 0
        · refine .inr (.inr (.inr (.inr ⟨a, k, vs, rfl, rfl, g.sub.sqt h1, hne, hk, by omega, fun p hp => ?_⟩)))
          rw [show k.toNat = 0 by omega] at fin
          exact g.layT hp .nil fin
        · refine .inr (.inr (.inl ⟨a, k, vs, rfl, rfl, g.sub.sqt h1, hne, by omega, h.2.1, by rw [r1.length]; exact h.2.2, fun p hp => g.layT hp ?_ fin⟩))
          induction k.toNat with
          | zero => exact .nil
          | succ n ih => rw [List.replicate_succ, List.flatten_cons, List.replicate_succ, List.flatten_cons]; exact r1.append ih
    | _ => cases e
  | _ => cases e
theorem ds_isBl : Op2 X dIsD rIsB := by
  intro G ι m H v u x y d Q g rx ry e fin
  cases y with
  | bl c =>
    cases x with
    | bl b =>
      cases (show v = .bl b from rx)
      cases (show u = .bl c from ry)
      cases e
      refine ⟨b, c, rfl, rfl, fin.here g ?_⟩
      have : (b == c) = decide (b = c) := by cases b <;> cases c <;> rfl
      rw [this]
      exact .bl _
    | _ => cases e
  | _ => cases x <;> cases e
theorem ds_notBl : Op2 X dNotD rNotB := by
  intro G ι m H v u x y d Q g rx ry e fin
  cases y with
  | bl c =>
    cases x with
    | bl b =>
      cases (show v = .bl b from rx)
      cases (show u = .bl c from ry)
      cases e
      refine ⟨b, c, rfl, rfl, fin.here g ?_⟩
      have : (b == c) = decide (b = c) := by cases b <;> cases c <;> rfl
      rw [this]
      exact .bl _
    | _ => cases e
  | _ => cases x <;> cases e
theorem intsD_rep {K : Kx} {G : Hp} : ∀ {xs : List D} {ns : List Int} {vs : List V}, intsD xs = some ns → RepAll K G vs xs → vs = ns.map V.int
  | [], _, _, h, r => by cases h; cases r; rfl
  | .int i :: xs, ns, _, h, r => by
    cases r with
    | @cons v vs _ _ r1 rr =>
      cases r1
      have h' : (intsD xs).map (i :: ·) = some ns := h
      cases h2 : intsD xs with
      | none => rw [h2] at h'; cases h'
      | some ms =>
        rw [h2] at h'
        cases h'
        rw [intsD_rep h2 rr] <;> rfl
  | .non :: _, _, _, h, _ => by cases h
  | .bl _ :: _, _, _, h, _ => by cases h
  | .str _ :: _, _, _, h, _ => by cases h
  | .tup _ :: _, _, _, h, _ => by cases h
  | .lst _ :: _, _, _, h, _ => by cases h
theorem maxI_of : ∀ {ns : List Int} {k : Int}, maxI ns = some k → k ∈ ns ∧ ∀ y, y ∈ ns → y ≤ k
  | [], _, h => by cases h
  | [a], k, h => by cases h; simp
  | a :: b :: r, k, h => by
    have h' : (match maxI (b :: r) with
      | some b => some (if a < b then b else a)
      | none => none) = some k := h
    cases h2 : maxI (b :: r) with
    | none => rw [h2] at h'; cases h'
    | some q =>
      rw [h2] at h'
      obtain ⟨i1, i2⟩ := maxI_of h2
      have e : (if a < q then q else a) = k := Option.some.inj h'
      by_cases z : a < q
      · rw [if_pos z] at e
        subst e
        exact ⟨List.mem_cons_of_mem _ i1, fun y hy => (List.mem_cons.mp hy).elim (fun w => by omega) (fun w => i2 y w)⟩
      · rw [if_neg z] at e
        subst e
        exact ⟨List.mem_cons_self .., fun y hy => (List.mem_cons.mp hy).elim (fun w => by omega) (fun w => Int.le_trans (i2 y w) (by omega))⟩
theorem minI_of : ∀ {ns : List Int} {k : Int}, minI ns = some k → k ∈ ns ∧ ∀ y, y ∈ ns → k ≤ y
  | [], _, h => by cases h
  | [a], k, h => by cases h; simp
  | a :: b :: r, k, h => by
    have h' : (match minI (b :: r) with
      | some b => some (if b < a then b else a)
      | none => none) = some k := h
    cases h2 : minI (b :: r) with
    | none => rw [h2] at h'; cases h'
    | some q =>
      rw [h2] at h'
      obtain ⟨i1, i2⟩ := minI_of h2
      have e : (if q < a then q else a) = k := Option.some.inj h'
      by_cases z : q < a
      · rw [if_pos z] at e
        subst e
        exact ⟨List.mem_cons_of_mem _ i1, fun y hy => (List.mem_cons.mp hy).elim (fun w => by omega) (fun w => i2 y w)⟩
      · rw [if_neg z] at e
        subst e
        exact ⟨List.mem_cons_self .., fun y hy => (List.mem_cons.mp hy).elim (fun w => by omega) (fun w => Int.le_trans (by omega) (i2 y w))⟩
theorem b_max : Bi1 X dMax (rMax X.K) := by
  intro G ι m H v x d Q g rx e fin
  cases x with
  | lst xs =>
    obtain ⟨a, vs, rfl, h, r⟩ := rx
    have e' : ((intsD xs).bind fun ns => (maxI ns).map D.int) = some d := e
    cases h1 : intsD xs with
    | none => rw [h1] at e'; cases e'
    | some ns =>
      rw [h1] at e'
      have e2 : (maxI ns).map D.int = some d := e'
      cases h2 : maxI ns with
      | none => rw [h2] at e2; cases e2
      | some k =>
        rw [h2] at e2
        cases e2
        obtain ⟨i1, i2⟩ := maxI_of h2
        refine ⟨a, ns, rfl, by rw [← intsD_rep h1 r]; exact h, List.length_pos_of_mem i1, fun q hq hm => ?_⟩
        have : q = k := Int.le_antisymm (i2 q hq) (hm k i1)
        subst this
        exact fin.here g (.int _)
  | _ => cases e
theorem b_min : Bi1 X dMin (rMin X.K) := by
  intro G ι m H v x d Q g rx e fin
  cases x with
  | lst xs =>
    obtain ⟨a, vs, rfl, h, r⟩ := rx
    have e' : ((intsD xs).bind fun ns => (minI ns).map D.int) = some d := e
    cases h1 : intsD xs with
    | none => rw [h1] at e'; cases e'
    | some ns =>
      rw [h1] at e'
      have e2 : (minI ns).map D.int = some d := e'
      cases h2 : minI ns with
      | none => rw [h2] at e2; cases e2
      | some k =>
        rw [h2] at e2
        cases e2
        obtain ⟨i1, i2⟩ := minI_of h2
        refine ⟨a, ns, rfl, by rw [← intsD_rep h1 r]; exact h, List.length_pos_of_mem i1, fun q hq hm => ?_⟩
        have : q = k := Int.le_antisymm (hm k i1) (i2 q hq)
        subst this
        exact fin.here g (.int _)
  | _ => cases e
theorem b_sum : Bi1 X dSum (rSum X.K) := by
  intro G ι m H v x d Q g rx e fin
  cases x with
  | lst xs =>
    obtain ⟨a, vs, rfl, h, r⟩ := rx
    have e' : ((intsD xs).map fun ns => D.int ns.sum) = some d := e
    cases h1 : intsD xs with
    | none => rw [h1] at e'; cases e'
    | some ns =>
      rw [h1] at e'
      cases e'
      exact ⟨a, ns, rfl, by rw [← intsD_rep h1 r]; exact h, fin.here g (.int _)⟩
  | _ => cases e
theorem isiP {T : String} {x d : D} (h : dIsiP T x = some d) : dIsi T x = some d := by
  obtain ⟨h1, h2⟩ := ite_some h
  subst h2
  rw [Bool.and_eq_true] at h1
  have h3 : T ∈ ["int", "str", "bool", "tuple", "list"] := by simpa using h1.1
  have h4 : ¬ tyP x = "" := by simpa using h1.2
  simp only [List.mem_cons, List.not_mem_nil, or_false] at h3
  have h5 : ¬ tyD x = "" := by
    cases x <;> first | exact absurd rfl h4 | (simp only [tyD]; decide)
  unfold dIsi
  rw [if_neg h5]
  have key : kitB (tyD x) T = some (T == tyP x || (T == "int" && tyP x == "bool")) := by
    rcases h3 with rfl | rfl | rfl | rfl | rfl <;> cases x <;> first | exact absurd rfl h4 | (simp only [tyD, tyP]; decide +kernel)
  rw [key] <;> rfl
theorem e1_mono {f g : D → Option D} (w : ∀ x d, f x = some d → g x = some d) (h : SEx X W e (e1 g fa)) : SEx X W e (e1 f fa) := by
  refine ⟨pe_weak h.pe fun σ H Q ⟨G, ι, ρ, m, g0, ev, p⟩ => ⟨G, ι, ρ, m, g0, ev, ?_⟩⟩
  have key : e1 f fa ρ m = e1 g fa ρ m ∨ e1 f fa ρ m = .no := by
    unfold e1
    cases fa ρ m with
    | no => exact .inl rfl
    | ex _ _ => exact .inl rfl
    | ok x m1 =>
      rw [Res.bind_ok, Res.bind_ok]
      cases hv : vw m1 x with
      | none => exact .inl rfl
      | some d =>
        cases hf : f d with
        | none => right; show ofO (f d) m1 = .no; rw [hf] <;> rfl
        | some d' => left; show ofO (f d) m1 = ofO (g d) m1; rw [hf, w _ _ hf]
  rcases key with k | k
  · rw [← k]; exact p
  · rw [k] at p; exact p.elim
theorem se_isiP {t : Str} {T : String} {pt : Pos} (hm : X.mg "isinstance" = none) (hmt : X.mg t = none) (ha : SEx X W a fa) (hv : bootBuiltins t = some (.type T) := by decide +kernel) (hg : Gl X "isinstance" := by rfl) (hgt : Gl X t := by rfl) (hn : t ≠ "__name__" := by decide +kernel)
    (hdb : (t == ("__debug__" : Str)) = false := by decide +kernel) (he : starEach (a :: [.Name t pt]) X.env = (false, eval a X.env) :: starEach [.Name t pt] X.env := by rfl) : SEx X W (.Call (.Name "isinstance" p) [a, .Name t pt] [] pos) (e1 (dIsiP T) fa) :=
  e1_mono (fun _ _ h => isiP h) (se_isi (x := "isinstance") hm hmt ha hv hg hgt hn hdb he)
/-- what no run of ours comes to: anything -/
theorem ss_no : SSt X W st sNo := ⟨⟨fun pins s σ H D I h => by obtain ⟨_, _, _, _, _, _, p⟩ := h; exact p.elim⟩⟩
theorem se_no : SEx X W e eNo := ⟨⟨fun pins s σ H Q I h => by obtain ⟨_, _, _, _, _, _, p⟩ := h; exact p.elim⟩⟩
end
end DI
namespace DI
open PySem PySem.Spec PyProof.Rows L2
def GlobC (K : Kx) (x : Str) (d : D) : Prop := ∃ v u, K.mg x = some u ∧ RelV v u ∧ ∀ G, Rep K G v d
section
variable {X : Cx} {W : XK} {pos : Pos}
theorem se_globE {x : Str} {d : D} (h : GlobC X.kx x d) (hg : Gl X x := by rfl) (hd : (x == ("__debug__" : Str)) = false := by decide +kernel) : SEx X W (.Name x pos) (eC d) := by
  obtain ⟨v, u, h1, h2, h3⟩ := h
  exact se_glob h1 h2 h3 hg hd
end
theorem globC_int {K : Kx} {x : Str} {i : Int} {t : Tok} (h : K.mg x = some (.int i t)) : GlobC K x (.int i) := ⟨.int i, _, h, ⟨t, rfl⟩, fun _ => .int i⟩
theorem globC_str {K : Kx} {x y : Str} {s : List Char} {t : Tok} (h : K.mg x = some (.str y t)) (e : y = txt s := by decide +kernel) : GlobC K x (.str s) := ⟨.str y, _, h, ⟨t, rfl⟩, fun _ => by rw [e]; exact .str s⟩
theorem globC_tup {K : Kx} {x : Str} {a : Addr} {dd : Option Addr} {its : Array Value} {n : Nat} {sl : Array (Option Value)} {vs : List V} {ds : List D} (h : K.mg x = some (.ref a)) (l : K.K.lookup a = some ⟨.type "tuple", dd, .seq its n, sl⟩)
    (hz : its.size ≤ 1000) (hv : Vals vs its.toList) (r : ∀ G, RepAll K G vs ds) : GlobC K x (.tup ds) :=
  ⟨.ref a, _, h, rfl, fun G => .tup (.inr ⟨_, its, n, l, rfl, rfl, Nat.le_trans hz (by decide), hv⟩) (r G)⟩
theorem repAll_ints {K : Kx} {G : Hp} : ∀ ns : List Int, RepAll K G (ns.map V.int) (ns.map D.int)
  | [] => .nil
  | n :: ns => .cons (.int n) (repAll_ints ns)
theorem walk {l : PySem.W.OpenLaw} {q : Program} {loose : List Str} {XP : (Str → Option Value) → Heap → Prop} {YP : World → Heap → Prop} {d : DefRec} {K : Params → PySem.W.Frag} {lv : Nat} {F : Fn} (hn : l.most = some 63) (hdf : d.params.defaults = []) (hr : Room lv callerA)
    (hY : ∀ (w : World) (h : Heap), YP w h → (K w.params).In h)
    (HF : ∀ (w : World) (mg : Str → Option Value) (fa : Addr) (h : Heap), (K w.params).In h → h.Ns mainGlobals mg → mg d.name = some (.ref fa) →
      ∃ fd : FuncData, (∀ (s : Shared) (u : Value), BindsTo s fd ⟨[u], []⟩ [("script", u)]) ∧ ∀ base : Heap, (K w.params).In base → base.Ns mainGlobals mg → FnOk l.prog w (K w.params) mg base (L2N.CX l.prog w) lv fa fd ["script"] (spF ⟨K w.params, mg⟩ 1 F))
    (law : ∀ ns : List Int, ns.length ≤ 63 → ∃ m', F [.d (.lst (ns.map .int))] [] = .ok (.d (.bl true)) m') :
    PySem.W.WalkO q loose XP YP l.row.toRowW d [] (fun f vs => PySem.call f vs) :=
  L2.walk_of (n := 63) (k := lv) (x := "script") (CX := fun w => L2N.CX l.prog w) (sp := fun w vs H Q E => ∃ (a : Addr) (ns : List Int), vs = [.ref a] ∧ SqL (K w.params) H a (ns.map V.int) ∧ ns.length ≤ 63 ∧ ∀ H', Q (.bl true) H') hn (by decide) hdf hr hY
    (fun w mg fa h KX G hmg => by
      obtain ⟨fd, hb, hF⟩ := HF w mg fa h KX G hmg
      refine ⟨fd, hb, fun base k1 k2 => (hF base k1 k2).imp fun vs H Q E h => ?_⟩
      obtain ⟨a, ns, rfl, hS, hl, k⟩ := h
      obtain ⟨m', e⟩ := law ns hl
      refine ⟨H, [], [], [.d (.lst (ns.map .int))], rfl, ⟨Sub.refl H, rfl, by simp, fun i l o h => by simp at h⟩, .cons (.lst hS (repAll_ints ns)) .nil, ?_⟩
      rw [e]
      intro v G' ι' H' x g r
      cases r
      exact k H')
    (fun _ _ a ns hl _ hS => ⟨a, ns, rfl, hS, hl, fun _ => rfl⟩) fun _ _ _ _ _ z => by
      obtain ⟨_, _, _, _, _, _, _, _, _, _, _, _, h⟩ := z
      exact h
/-- .. of a law that makes lambdas: c its code object, T that one's table -/
theorem walkT {l : PySem.W.OpenLaw} {q : Program} {loose : List Str} {XP : (Str → Option Value) → Heap → Prop} {YP : World → Heap → Prop} {d : DefRec} {K : Params → PySem.W.Frag} {lv : Nat} {T : Addr} {F : Addr → Fn} (qn : String) (hn : l.most = some 63) (hdf : d.params.defaults = []) (hr : Room lv callerA)
    (hY : ∀ (w : World) (h : Heap), YP w h → (K w.params).In h) (hT : ∀ (w : World) (h : Heap), YP w h → ∀ P ∈ [T], h.get? P = some { cls := .none, data := .fields #[] })
    (HF : ∀ (w : World) (mg : Str → Option Value) (fa : Addr) (h : Heap), (K w.params).In h → h.Ns mainGlobals mg → mg d.name = some (.ref fa) →
      ∃ (c : Addr) (fd : FuncData), PySem.W.codeHdIn (K w.params) c T = true ∧ (K w.params).lookup T = none ∧ (∀ (s : Shared) (u : Value), BindsTo s fd ⟨[u], []⟩ [("script", u)]) ∧
        ∀ base : Heap, (K w.params).In base → base.Ns mainGlobals mg → LamX.TabB base mg c T → FnOk l.prog w (K w.params) mg base (L2N.CX l.prog w) lv fa fd ["script"] (spF ⟨K w.params, mg⟩ 1 (F T)))
    (law : ∀ (T : Addr) (ns : List Int), ns.length ≤ 63 → ∃ m', F T [.d (.lst (ns.map .int))] [.tab T qn] = .ok (.d (.bl true)) m') :
    PySem.W.WalkO q loose XP YP l.row.toRowW d [] (fun f vs => PySem.call f vs) :=
  LamX.walk_ofTs (n := 63) (k := lv) (x := "script") (CX := fun w => L2N.CX l.prog w) hn (by decide) hdf hr hY
    (fun w mg fa h Y KX G hmg => by
      obtain ⟨c, fd, h1, h2, hb, hF⟩ := HF w mg fa h KX G hmg
      have one : ∀ {φ : Addr × Addr → Prop}, φ (c, T) → ∀ p ∈ [(c, T)], φ p := fun {φ} z p hp => by
        have e : p = (c, T) := by simpa using hp
        rw [e]; exact z
      refine ⟨fd, [(c, T)], fun vs H Q E => ∃ (a : Addr) (ns : List Int), vs = [.ref a] ∧ SqL (K w.params) H a (ns.map V.int) ∧ ns.length ≤ 63 ∧ H T = some (.tbl #[]) ∧ ∀ H', Q (.bl true) H', one (hT w h Y T (by simp)), one h2, one (PySem.W.codeHd_of_K KX h1), hb, fun H a ns hl _ hH hS => ⟨a, ns, rfl, hS, hl, hH (c, T) (by simp), fun _ => rfl⟩, fun base k1 k2 k3 => (hF base k1 k2 (k3 (c, T) (by simp))).imp fun vs H Q E h => ?_⟩
      obtain ⟨a, ns, rfl, hS, hl, hH, k⟩ := h
      obtain ⟨m', e⟩ := law T ns hl
      -- the script is frozen, the table is ours
      refine ⟨fun b => if b = T then none else H b, [[T]], [.tab T qn], [.d (.lst (ns.map .int))], rfl, ⟨fun b o q => ?_, rfl, by simp, fun i l o hl ho => ?_⟩, .cons (.lst ?_ (repAll_ints ns)) .nil, ?_⟩
      · by_cases z : b = T
        · rw [if_pos z] at q; cases q
        · rw [if_neg z] at q; exact q
      · cases i with
        | succ i => simp at hl
        | zero =>
          simp at hl ho
          subst hl ho
          exact ⟨#[], rfl, if_pos rfl, hH, True.intro, fun pos cv hc => by simp [codeAmong] at hc⟩
      · have hne : a ≠ T ∨ ∃ o its n, (K w.params).lookup a = some o ∧ o.cls = .type "list" ∧ o.dict = none ∧ o.data = .seq its n ∧ its.size ≤ sizeLine ∧ Vals (ns.map V.int) its.toList := by
          rcases hS with (hS | ⟨o, hS⟩) | hS
          · exact .inl fun z => by rw [z, hH] at hS; cases hS
          · exact .inl fun z => by rw [z, hH] at hS; cases hS
          · exact .inr hS
        rcases hne with z | z
        · rcases hS with (hS | ⟨o, hS⟩) | hS
          · exact .inl (.inl ((if_neg z).trans hS))
          · exact .inl (.inr ⟨o, (if_neg z).trans hS⟩)
          · exact .inr hS
        · exact .inr z
      · rw [e]
        intro v G' ι' H' x g r
        cases r
        exact k H')
    fun _ _ _ _ _ z => by
      obtain ⟨_, _, _, _, _, _, _, _, _, _, _, _, h⟩ := z
      exact h
end DI
namespace DI
open PySem PySem.Spec PyProof.Rows L2
theorem rgV_rep {K : Kx} {G : Hp} (a b : Int) : RepAll K G (rgV a b) (rng a (b - a).toNat) := by
  unfold rgV rng
  induction List.range (b - a).toNat with
  | nil => exact .nil
  | cons n ns ih => exact .cons (.int _) ih
section
variable {X : Cx} {W : XK} {a b : Expr} {fa fb : SE} {pos p p2 pos2 : Pos} {G H : Hp} {ι : Io} {ρ : Env} {m : Mem} {σ : L2.St}
/-- the way to a new list from an expression's steps -/
theorem tNE_G {f : NE} {Q : VK} {g0 : GR X.kx G ι m H} (ev : EnvR X.kx G ι ρ σ) (p : match f ρ m with
  | .ok xs m' => ∀ q vs G' ι' H', Ext G ι H G' ι' H' → GR X.kx G' ι' m' H' → H' q = none → RepAll X.kx G' vs xs → Q (.ref q) (upd H' q (.lst vs))
  | .ex e m' => ∀ c dx G' ι' H', Ext G ι H G' ι' H' → GR X.kx G' ι' m' H' → ExR X.kx G' H' e c dx → W c dx H'
  | .no => False) : PostG X (fun G _ (v : Addr × List V) xs => RepAll X.kx G v.2 xs) W G ι H (f ρ m) (fun v H' => H' v.1 = none → Q (.ref v.1) (upd H' v.1 (.lst v.2))) := by
  cases hr : f ρ m with
  | no => rw [hr] at p; exact p
  | ex e m1 => rw [hr] at p; exact p
  | ok xs m1 =>
    rw [hr] at p
    exact fun v G' ι' H' e g r hq => p v.1 v.2 G' ι' H' e g hq r
theorem ne_rg1 (hc : X.calm = true) (hml : X.mg "list" = none) (hm : X.mg "range" = none) (h : SEx X W a fa) (hgl : Gl X "list" := by rfl) (hg : Gl X "range" := by rfl) (hs : starEach [a] X.env = (false, eval a X.env) :: starEach [] X.env := by rfl)
    (hs0 : starEach [.Call (.Name "range" p2) [a] [] pos2] X.env = (false, eval (.Call (.Name "range" p2) [a] [] pos2) X.env) :: starEach [] X.env := by rfl) :
    NEx X W (.Call (.Name "list" p) [.Call (.Name "range" p2) [a] [] pos2] [] pos) (nRg1 fa) := by
  refine ⟨pe_weak (pe_listRg hc hgl hml (prg_1 hg hm h.pe hs) hs0) fun σ H Q ⟨G, ι, ρ, m, g, ev, p⟩ => ?_⟩
  have p' := tNE_G (f := nRg1 fa) (g0 := g) ev p
  have p2 : PostG X (fun G _ (v : Addr × List V) xs => RepAll X.kx G v.2 xs) W G ι H ((fa ρ m).bind fun x m => match x with
    | .d (.int j) => if j.natAbs ≤ 1000000 then .ok (rng 0 j.toNat) m else .no
    | _ => .no) (fun v H' => H' v.1 = none → Q (.ref v.1) (upd H' v.1 (.lst v.2))) := p'
  refine tE_mono (step_e g ev p2) fun v H1 ⟨G1, ι1, m1, x, x1, g1, ev1, r1, _, p3⟩ => ?_
  match x, p3, r1 with
  | .d (.int j), p3, r1 =>
    cases r1
    have p4 : PostG X (fun G _ (v : Addr × List V) xs => RepAll X.kx G v.2 xs) W G1 ι1 H1 (if j.natAbs ≤ 1000000 then .ok (rng 0 j.toNat) m1 else .no) (fun v H' => H' v.1 = none → Q (.ref v.1) (upd H' v.1 (.lst v.2))) := p3
    by_cases hf : j.natAbs ≤ 1000000
    · rw [if_pos hf] at p4
      refine ⟨j, rfl, ⟨by omega, by omega, by omega, by omega, by omega⟩, fun q hq => p4 (q, rgV 0 j) G1 ι1 H1 (Ext.refl ..) g1 ?_ hq⟩
      have := rgV_rep (K := X.kx) (G := G1) 0 j
      rw [Int.sub_zero] at this
      exact this
    · rw [if_neg hf] at p4; exact p4.elim
  | .d .non, p1, _ => exact p1.elim
  | .d (.bl _), p1, _ => exact p1.elim
  | .d (.str _), p1, _ => exact p1.elim
  | .d (.tup _), p1, _ => exact p1.elim
  | .d (.dct _ _), p1, _ => exact p1.elim
  | .d (.ins _ _ _), p1, _ => exact p1.elim
  | .d (.lst _), p1, _ => exact p1.elim
  | .obj _, p1, _ => exact p1.elim
  | .raw _, p1, _ => exact p1.elim
theorem ne_rg2 (hc : X.calm = true) (hml : X.mg "list" = none) (hm : X.mg "range" = none) (h : SEx X W a fa) (h' : SEx X W b fb) (hgl : Gl X "list" := by rfl) (hg : Gl X "range" := by rfl) (hs : starEach [a, b] X.env = (false, eval a X.env) :: starEach [b] X.env := by rfl)
    (hsb : starEach [b] X.env = (false, eval b X.env) :: starEach [] X.env := by rfl) (hpl : (backTo pos2 (starEach [b] X.env)).any (·.1) = false := by rfl)
    (hs0 : starEach [.Call (.Name "range" p2) [a, b] [] pos2] X.env = (false, eval (.Call (.Name "range" p2) [a, b] [] pos2) X.env) :: starEach [] X.env := by rfl) :
    NEx X W (.Call (.Name "list" p) [.Call (.Name "range" p2) [a, b] [] pos2] [] pos) (nRg2 fa fb) := by
  refine ⟨pe_weak (pe_listRg hc hgl hml (prg_2 hg hm h.pe h'.pe hs hsb hpl) hs0) fun σ H Q ⟨G, ι, ρ, m, g, ev, p⟩ => ?_⟩
  have p' := tNE_G (f := nRg2 fa fb) (g0 := g) ev p
  have p2 : PostG X (fun G _ (v : Addr × List V) xs => RepAll X.kx G v.2 xs) W G ι H ((fa ρ m).bind fun x m => (fb ρ m).bind fun y m => match x, y with
    | .d (.int i), .d (.int j) => if i.natAbs ≤ 1000000 ∧ j.natAbs ≤ 1000000 then .ok (rng i (j - i).toNat) m else .no
    | _, _ => .no) (fun v H' => H' v.1 = none → Q (.ref v.1) (upd H' v.1 (.lst v.2))) := p'
  refine tE_mono (step_e g ev p2) fun v H1 ⟨G1, ι1, m1, x, x1, g1, ev1, r1, _, p3⟩ => ?_
  refine tE_mono (step_e g1 ev1 p3) fun u H2 ⟨G2, ι2, m2, y, x2, g2, ev2, r2, _, p4⟩ => ?_
  have key : ∃ i j, x = .d (.int i) ∧ y = .d (.int j) := by
    match x, y, p4 with
    | .d (.int i), .d (.int j), _ => exact ⟨i, j, rfl, rfl⟩
    | .d (.int i), .d .non, p2 => exact p2.elim
    | .d (.int i), .d (.bl _), p2 => exact p2.elim
    | .d (.int i), .d (.str _), p2 => exact p2.elim
    | .d (.int i), .d (.tup _), p2 => exact p2.elim
    | .d (.int i), .d (.dct _ _), p2 => exact p2.elim
    | .d (.int i), .d (.ins _ _ _), p2 => exact p2.elim
    | .d (.int i), .d (.lst _), p2 => exact p2.elim
    | .d (.int i), .obj _, p2 => exact p2.elim
    | .d .non, _, p2 => exact p2.elim
    | .d (.bl _), _, p2 => exact p2.elim
    | .d (.str _), _, p2 => exact p2.elim
    | .d (.tup _), _, p2 => exact p2.elim
    | .d (.dct _ _), _, p2 => exact p2.elim
    | .d (.ins _ _ _), _, p2 => exact p2.elim
    | .d (.lst _), _, p2 => exact p2.elim
    | .obj _, _, p2 => exact p2.elim
    | .raw _, _, p2 => exact p2.elim
  obtain ⟨i, j, rfl, rfl⟩ := key
  cases r1
  cases r2
  have p5 : PostG X (fun G _ (v : Addr × List V) xs => RepAll X.kx G v.2 xs) W G2 ι2 H2 (if i.natAbs ≤ 1000000 ∧ j.natAbs ≤ 1000000 then .ok (rng i (j - i).toNat) m2 else .no) (fun v H' => H' v.1 = none → Q (.ref v.1) (upd H' v.1 (.lst v.2))) := p4
  by_cases hf : i.natAbs ≤ 1000000 ∧ j.natAbs ≤ 1000000
  · rw [if_pos hf] at p5
    exact ⟨i, j, rfl, rfl, ⟨by omega, by omega, by omega, by omega, by omega⟩, fun q hq => p5 (q, rgV i j) G2 ι2 H2 (Ext.refl ..) g2 (rgV_rep i j) hq⟩
  · rw [if_neg hf] at p5; exact p5.elim
theorem signs_vals {x : Str} {acc : Array Value} (h : ItemsOf (SignAt x) acc x.cps.size) : Vals (x.cps.toList.map fun c => V.str ⟨#[c]⟩) acc.toList := by
  have e : acc.toList.length = x.cps.toList.length := by rw [Array.length_toList, h.1]; simp
  have e2 : (x.cps.toList.map fun c => V.str ⟨#[c]⟩) = (List.range acc.toList.length).map fun i => V.str ⟨#[x.cps.toList.getD i 0]⟩ := by
    apply List.ext_getElem?
    intro i
    by_cases hi : i < x.cps.toList.length
    · have hi2 : i < acc.toList.length := by omega
      rw [List.getElem?_map, List.getElem?_map, List.getElem?_eq_getElem hi, List.getElem?_range hi2]
      have hi3 : i < x.cps.size := by simpa using hi
      simp [List.getD, hi3]
    · rw [List.getElem?_eq_none (by simpa using hi), List.getElem?_eq_none (by rw [List.length_map, List.length_range]; omega)]
  rw [e2]
  refine vals_of_get acc.toList _ fun j u hj => ?_
  obtain ⟨c, t, hc, rfl⟩ := h.2 j u (by rw [← hj, Array.getElem?_toList])
  have hc2 : x.cps.toList[j]? = some c := by rw [Array.getElem?_toList]; exact hc
  refine ⟨t, ?_⟩
  simp [List.getD, hc2]
theorem call_list_txt (hc : X.calm = true) : CallR X (.type "list") (fun xs H Q => ∃ z, xs = [.str z] ∧ z.length ≤ sizeLine ∧ ∀ l, H l = none → Q (.ref l) (upd H l (.lst (z.cps.toList.map fun c => .str ⟨#[c]⟩)))) := by
  intro pins s σ H xs us Q I r h
  obtain ⟨z, rfl, hz, q⟩ := h
  obtain ⟨u, rfl, t, rfl⟩ := vals1 r
  refine call_list_str (I.ok.hd hc) z t (fun h' tk acc' c' hk hS hi => ?_) hz
  refine ⟨.ref s.heap.objs.size, _, I.laid (t' := tk) hk (Nat.le_refl _) (show ObjOk X.prog X.w _ h' _ (.lst _) from ⟨?_, acc'.toList, c', signs_vals hi, ?_⟩), rfl, q _ (I.hok.fresh (Nat.le_refl _))⟩
  · have : z.cps.size ≤ sizeLine := hz
    simpa using this
  · rw [Array.toArray_toList]; exact hS
theorem ne_listA (hc : X.calm = true) (hm : X.mg "list" = none) (ha : SEx X W a fa) (hg : Gl X "list" := by rfl) (he : starEach (a :: []) X.env = (false, eval a X.env) :: starEach [] X.env := by rfl) : NEx X W (.Call (.Name "list" p) [a] [] pos) (nSqA fa) := by
  refine ⟨pe_weak (pe_callTy (call_list_of.or (call_list_txt hc)) hg hm (by decide +kernel) (pa_cons ha.pe pa_nil he) (by decide +kernel) (by decide +kernel) he (by rfl)) fun σ H Q ⟨G, ι, ρ, m, g, ev, p⟩ => ?_⟩
  refine ⟨G, ι, ρ, m, g, ev, ?_⟩
  unfold nSqA at p
  cases hr : fa ρ m with
  | no => rw [hr] at p; exact p
  | ex e m1 => rw [hr] at p; exact p
  | ok x m1 =>
    rw [hr] at p
    intro v G' ι' H' e g r
    rw [Res.bind_ok] at p
    cases hx : vw m1 x with
    | none => rw [hx] at p; exact p.elim
    | some d =>
      rw [hx] at p
      cases d with
      | lst xs =>
        obtain ⟨a, vs, rfl, h, q⟩ := r.view g hx
        exact .inl ⟨a, vs, rfl, .inl h, fun q' hq => p q' vs G' ι' H' e g hq q⟩
      | tup xs =>
        obtain ⟨a, vs, rfl, h, q⟩ := r.view g hx
        exact .inl ⟨a, vs, rfl, .inr (g.sub.sqt h), fun q' hq => p q' vs G' ι' H' e g hq q⟩
      | str s =>
        cases (show v = .str (txt s) from r.view g hx)
        by_cases hl : s.length ≤ lineL
        · have p' := p
          dsimp only at p'
          rw [if_pos hl] at p'
          exact .inr ⟨_, rfl, by rw [txt_length, ← lineL_eq]; exact hl, fun q' hq => p' q' _ G' ι' H' e g hq (repAll_str s)⟩
        · have p' := p
          dsimp only at p'
          rw [if_neg hl] at p'
          exact p'.elim
      | _ => exact p.elim
end
end DI
namespace DI
open PySem PySem.Spec PyProof.Rows L2 HT
section
variable {prog : Program} {w : World} {A : Around} {E : Value → Shared → Prop} {s : Shared}
theorem sliceApplied_rev {sl : Addr} {vl vu vs : Value} {n : Nat} {Q : Int × Int × Nat → Shared → Prop} (hs : s.heap.IsSliceOf sl vl vu vs) (pl : IsPart vl none) (pu : IsPart vu none) (ps : IsPart vs (some (-1)))
    (h : Q ((n : Int) - 1, -1, n) s) : wpAny (model prog w) A (Builtin.Slice.sliceApplied (.ref sl) (pure (n : Int))) Q E s := by
  obtain ⟨os, hos, hcs, hds⟩ := id hs
  unfold Builtin.Slice.sliceApplied Builtin.Slice.sliceFields
  refine wpAny_bind (wpAny_bind (wpAny_field hos hds (x := vl) rfl (wpAny_bind (wpAny_field hos hds (x := vu) rfl (wpAny_bind (wpAny_field hos hds (x := vs) rfl (wpAny_pure ?_)))))))
  refine wpAny_bind (slicePart_ ps ?_)
  show wpAny _ _ (if ((-1 : Int) == 0) = true then _ else _) _ _ s
  rw [if_neg (by decide)]
  refine wpAny_bind (slicePart_ pl (wpAny_bind (slicePart_ pu (wpAny_bind (wpAny_pure ?_)))))
  show wpAny _ _ (match Builtin.Slice.sliceAdjust none none (-1) (n : Int) with | (lo, hi) => pure (lo, (-1 : Int), Builtin.Slice.slicePlaces lo hi (-1))) _ _ s
  have e : Builtin.Slice.sliceAdjust none none (-1) (n : Int) = ((n : Int) - 1, -1) := rfl
  rw [e]
  show wpAny _ _ (pure ((n : Int) - 1, (-1 : Int), Builtin.Slice.slicePlaces ((n : Int) - 1) (-1) (-1))) _ _ s
  have e2 : Builtin.Slice.slicePlaces ((n : Int) - 1) (-1) (-1) = n := by
    unfold Builtin.Slice.slicePlaces
    rw [if_neg (by decide)]
    by_cases h : (n : Int) - 1 > -1
    · rw [if_pos h]
      have : ((n : Int) - 1 - -1 - 1) / (- -1) = (n : Int) - 1 := by
        rw [show (- -1 : Int) = 1 by decide, Int.ediv_one]
        omega
      rw [this]
      omega
    · rw [if_neg h]
      omega
  rw [e2]
  exact wpAny_pure h
theorem fm_some {α β : Type} {f : α → Option β} {g : α → β} : ∀ l : List α, (∀ x ∈ l, f x = some (g x)) → l.filterMap f = l.map g
  | [], _ => rfl
  | x :: l, h => by rw [List.filterMap_cons_some (h x (by simp)), fm_some l fun y hy => h y (by simp [hy]), List.map_cons]
theorem pick_rev (xs : Array Value) : ((List.range xs.size).filterMap fun (k : Nat) => xs[((xs.size : Int) - 1 + (k : Int) * -1).toNat]?).toArray = xs.toList.reverse.toArray := by
  congr 1
  have key : ∀ l : List Value, (List.range l.length).filterMap (fun (k : Nat) => l[((l.length : Int) - 1 + (k : Int) * -1).toNat]?) = l.reverse := by
    intro l
    apply List.ext_getElem?
    intro i
    have e : (List.range l.length).filterMap (fun (k : Nat) => l[((l.length : Int) - 1 + (k : Int) * -1).toNat]?) = (List.range l.length).map fun k => l.getD (l.length - 1 - k) .none := by
      refine fm_some _ fun k hk => ?_
      rw [List.mem_range] at hk
      have e1 : ((l.length : Int) - 1 + (k : Int) * -1).toNat = l.length - 1 - k := by omega
      rw [e1]
      have hlt : l.length - 1 - k < l.length := by omega
      simp [List.getD, List.getElem?_eq_getElem hlt]
    rw [e]
    by_cases hi : i < l.length
    · rw [List.getElem?_map, List.getElem?_range hi, List.getElem?_reverse hi]
      have hlt : l.length - 1 - i < l.length := by omega
      simp [List.getD, List.getElem?_eq_getElem hlt]
    · rw [List.getElem?_eq_none (by rw [List.length_map, List.length_range]; omega), List.getElem?_eq_none (by rw [List.length_reverse]; omega)]
  have := key xs.toList
  simpa using this
theorem getItem_tuple_rev {t sl : Addr} {items : Array Value} {vl vu vs : Value} {Q : Value → Shared → Prop} (ht : IsTup s.heap t items) (hs : s.heap.IsSliceOf sl vl vu vs) (pl : IsPart vl none) (pu : IsPart vu none) (ps : IsPart vs (some (-1)))
    (h : Q (.ref s.heap.objs.size) { s with heap := s.heap.push { cls := .type "tuple", data := .seq items.toList.reverse.toArray } })
    (hsz : items.size ≤ sizeLine) : wpAny (model prog w) A (getItem (.ref t) (.ref sl)) Q E s := by
  have hok : sizeOk (.seq items.toList.reverse.toArray) := by
    show items.toList.reverse.toArray.size ≤ sizeLine
    rw [List.size_toArray, List.length_reverse, Array.length_toList]
    exact hsz
  obtain ⟨os, hos, hcs, hds⟩ := id hs
  have hTs : s.TypeIs (.ref sl) "slice" := ⟨os, hos, hcs⟩
  unfold getItem
  try with_reducible refine wpAny_holding ?_
  first | refine wpAny_bind (wpAny_pure ?_) | skip
  refine wpAny_bind (wpAny_sequenceKey ht.typeIs (by decide) ?_)
  refine wpAny_bind (wpAny_callSpecial?_slot (name := Str.ofString "__getitem__") ht.typeIs PyProof.Rows.slot_tuple_getitem
    (wpAny_call_entry PyProof.Rows.slot_tuple_getitem ht.typeIs entry_tuple_getitem ?_ (args_tuple_getitem _ _)))
  show wpAny _ _ (Builtin.Tuple.tupleItemsOf (.ref t) >>= _) _ _ s
  refine wpAny_bind (tupleItemsOf_ ht ?_)
  refine wpAny_bind (wpAny_typeOf hTs ?_)
  rw [if_pos (by decide)]
  refine wpAny_bind (sliceApplied_rev hs pl pu ps ?_)
  have hno : ¬ ((((items.size : Int) - 1 == 0) && (-1 : Int) == 1 && items.size == items.size) = true) := by
    intro q
    rw [Bool.and_eq_true, Bool.and_eq_true] at q
    exact absurd q.1.2 (by decide)
  show wpAny _ _ (if (((items.size : Int) - 1 == 0) && (-1 : Int) == 1 && items.size == items.size) = true then _ else _) _ _ s
  rw [if_neg hno, pick_rev]
  first
    | exact wpAny_bind (m := Builtin.Tuple.tupleExact _) (wpAny_newObj_type (wpAny_pure ⟨_, rfl, wpAny_pure h⟩) hok)
    | exact wpAny_bind (m := Builtin.Tuple.tupleExact _) (wpAny_newObj_type (wpAny_bind (wpAny_pure (wpAny_pure ⟨_, rfl, wpAny_pure h⟩))) hok)
    | exact wpAny_bind (wpAny_bind (m := Builtin.Tuple.tupleExact _) (wpAny_newObj_type (wpAny_pure (wpAny_pure ⟨_, rfl, wpAny_pure h⟩)) hok))
    | exact wpAny_bind (wpAny_bind (m := Builtin.Tuple.tupleExact _) (wpAny_newObj_type (wpAny_pure ⟨_, rfl, wpAny_pure h⟩) hok))
end
def tRevT (K : PySem.W.Frag) (te : TE) : TE := fun σ H Q => te σ H fun x H1 => ∃ a xs, x = .ref a ∧ SqT K H1 a xs ∧ ∀ p, H1 p = none → Q (.ref p) (upd H1 p (.tup xs.reverse))
section
variable {X : Cx} {W : XK} {e : Expr} {te : TE} {fe : SE} {k : Nat} {p1 p2 p3 pos : Pos}
theorem pe_revT (he : PE X e te) : PE X (.Subscript e (.Slice none none (some (.UnaryOp .USub (.Constant (.int 1) k p1) p2)) p3) pos) (tRevT X.K te) := by
  refine ⟨fun pins s σ H Q I h => ?_⟩
  refine Subscript_ (thn (he.run pins s σ H _ I h) fun v s1 ⟨x, H1, I1, r1, q1⟩ => ?_)
  obtain ⟨a, xs, ex, hx, q⟩ := q1
  subst ex
  cases r1
  have hst : PO X (some (.UnaryOp .USub (.Constant (.int 1) k p1) p2)) (tPart (tUn (rU fun i => .int (-i)) (tC (.int 1)))) := po_some (pe_un un_neg pe_int)
  refine wpAny_Slice (thn (po_none.run pins s1 σ H1 (fun o H2 => o = none ∧ H2 = H1) I1 ⟨rfl, rfl⟩) fun vl s2 ⟨l, H2, I2, pl, el, e2⟩ => ?_)
  subst el e2
  refine thn (po_none.run pins s2 σ H2 (fun o H3 => o = none ∧ H3 = H2) I2 ⟨rfl, rfl⟩) fun vu s3 ⟨u, H3, I3, pu, eu, e3⟩ => ?_
  subst eu e3
  refine thn (hst.run pins s3 σ H3 (fun o H4 => o = some (-1) ∧ H4 = H3) I3 ⟨1, rfl, -1, rfl, rfl, rfl⟩) fun vs s4 ⟨o, H4, I4, ps, eo, e4⟩ => ?_
  subst eo e4
  have I5 : Inv X pins σ H4 { s4 with heap := s4.heap.push { cls := .type "slice", data := .fields #[vl, vu, vs] } } := I4.kept (t' := s4.toks) fun b ob q => Heap.get?_push_of_some _ q
  obtain ⟨its, r, ht, hz⟩ := I5.tuple hx
  have hlen := r.length
  show wpAny (model X.prog X.w) X.A (subscriptTail e (.Slice none none (some (.UnaryOp .USub (.Constant (.int 1) k p1) p2)) p3) (.ref a) (.ref s4.heap.objs.size)) (EP X pins σ Q) X.xe { s4 with heap := s4.heap.push { cls := .type "slice", data := .fields #[vl, vu, vs] } }
  refine tail_any (ops := [.ref a, .ref s4.heap.objs.size]) ht.typeIs (PyProof.Rows.slot_tuple_getitem.lookup) ?_ (by with_unfolding_all rfl)
  refine getItem_tuple_rev ht (Heap.IsSliceOf.new _ vl vu vs) pl pu ps ?_ (by rw [List.size_toArray]; omega)
  refine ⟨.ref _, _, I5.laid (t' := s4.toks) (o := .tup xs.reverse) (fun b ob q => Heap.get?_push_of_some _ q) (Nat.le_refl _) ?_, rfl, q _ (I5.hok.fresh (Nat.le_refl _))⟩
  exact ⟨by rw [List.length_reverse]; exact hz, _, r.reverse, IsTup.new _ _⟩
theorem pe_or2 {t t' : TE} (h : PE X e t) (h' : PE X e t') : PE X e (fun σ H Q => t σ H Q ∨ t' σ H Q) := ⟨fun pins s σ H Q I q => q.elim (h.run pins s σ H Q I) (h'.run pins s σ H Q I)⟩
theorem RepAll.rev {K : Kx} {G : Hp} : ∀ {vs : List V} {ds : List DI.D}, RepAll K G vs ds → RepAll K G vs.reverse ds.reverse
  | _, _, .nil => .nil
  | _, _, .cons r t => by rw [List.reverse_cons, List.reverse_cons]; exact (RepAll.rev t).append (.cons r .nil)
/-- x[::-1] -/
theorem se_rev (he : SEx X W e fe) : SEx X W (.Subscript e (.Slice none none (some (.UnaryOp .USub (.Constant (.int 1) k p1) p2)) p3) pos) (e1 dRev fe) := by
  refine ⟨pe_weak (pe_or2 (pe_revL he.pe) (pe_revT he.pe)) fun σ H Q ⟨G, ι, ρ, m, g, ev, p⟩ => ?_⟩
  rw [postE_G] at p
  have p' : PostG X (fun G ι => RepV X.kx G ι) W G ι H ((fe ρ m).bind fun x m => ofO ((vw m x).bind dRev) m) Q := p
  cases hr : fe ρ m with
  | no => rw [hr] at p'; exact p'.elim
  | ex ee m1 =>
    rw [hr] at p'
    refine .inl ⟨G, ι, ρ, m, g, ev, ?_⟩
    rw [postE_G, hr]
    exact p'
  | ok x m1 =>
    rw [hr, Res.bind_ok] at p'
    cases hx : vw m1 x with
    | none => rw [hx] at p'; exact p'.elim
    | some d =>
      rw [hx] at p'
      cases d with
      | lst xs =>
        refine .inl ⟨G, ι, ρ, m, g, ev, ?_⟩
        rw [postE_G, hr]
        intro v G' ι' H' e' g' r'
        obtain ⟨a, vs, rfl, h, q⟩ := r'.view g' hx
        refine ⟨a, vs, rfl, h, fun pp hp => ?_⟩
        exact g'.layL hp q.rev fun w G2 H2 e2 g2 r2 => p' w G2 ι' H2 (e'.trans e2) g2 r2
      | tup xs =>
        refine .inr ⟨G, ι, ρ, m, g, ev, ?_⟩
        rw [postE_G, hr]
        intro v G' ι' H' e' g' r'
        obtain ⟨a, vs, rfl, h, q⟩ := r'.view g' hx
        refine ⟨a, vs, rfl, g'.sub.sqt h, fun pp hp => ?_⟩
        exact g'.layT hp q.rev fun w G2 H2 e2 g2 r2 => p' w G2 ι' H2 (e'.trans e2) g2 r2
      | _ => exact p'.elim
end
end DI
namespace DI
open PySem PySem.Spec PyProof.Rows L2
section
variable {X : Cx} {W : XK} {a b : Expr} {fa fb : SE} {pos p : Pos} {G H : Hp} {ι : Io} {ρ : Env} {m : Mem} {σ : L2.St}
theorem ite_some' {α : Type} {c : Prop} [Decidable c] {a : Option α} {d : α} (h : (if c then a else none) = some d) : c ∧ a = some d := by
  by_cases z : c
  · rw [if_pos z] at h; exact ⟨z, h⟩
  · rw [if_neg z] at h; cases h
theorem firstIx_of {K : Kx} {G : Hp} {u : V} {y : DI.D} (q : Rep K G u y) (fy : flatD y = true) : ∀ {vs : List V} {xs : List DI.D} {j : Nat}, RepAll K G vs xs → xs.all flatD = true → firstIx y xs = some j →
    ∃ z, vs[j]? = some z ∧ L2.eqV z u = true ∧ ∀ (i : Nat) (z' : V), i < j → vs[i]? = some z' → L2.eqV z' u = false
  | _, _, _, .nil, _, h => by cases h
  | _, _, j, .cons (v := v) (vs := vs) (d := d) (ds := ds) r t, f, h => by
    rw [List.all_cons, Bool.and_eq_true] at f
    have e := r.eqV q f.1 fy
    have h' : (if D.eqv d y then some 0 else (firstIx y ds).map (· + 1)) = some j := h
    by_cases z : D.eqv d y = true
    · rw [if_pos z] at h'
      cases h'
      exact ⟨v, rfl, by rw [e]; exact z, fun i z' hi => absurd hi (Nat.not_lt_zero i)⟩
    · rw [if_neg z] at h'
      cases hr : firstIx y ds with
      | none => rw [hr] at h'; cases h'
      | some k =>
        rw [hr] at h'
        cases h'
        obtain ⟨w, h1, h2, h3⟩ := firstIx_of q fy t f.2 hr
        refine ⟨w, h1, h2, fun i z' hi hz => ?_⟩
        cases i with
        | zero =>
          cases hz
          rw [e]
          exact Bool.eq_false_iff.mpr z
        | succ i => exact h3 i z' (Nat.lt_of_succ_lt_succ hi) hz
theorem se_index {apos : Pos} (ha : SEx X W a fa) (hb : SEx X W b fb) (hbase : attributeBase a "index" X.env (eval a X.env) = eval a X.env := by rfl)
    (hfew : ((backTo pos (starEach (b :: []) X.env)).all (fun x => !x.1) && (backToKw pos (keywordEach [] X.env)).all (fun x => x.1.isSome)
      && decide ((b :: []).length + ([] : List Keyword).length + (if ([] : List Keyword).isEmpty then 0 else 1) < 30)) = true := by rfl)
    (hline : (apos.endLine == pos.line) = true := by rfl) (hs : starEach (b :: []) X.env = (false, eval b X.env) :: starEach [] X.env := by rfl) :
    SEx X W (.Call (.Attribute a "index" apos) [b] [] pos) (eMeth dIndex fa fb) := by
  refine ⟨pe_weak (pe_bm PySem.F.plainAttrs_list PySem.F.slot_list_index PySem.F.type_list_index (show MtR X "list.index" (rIndex X.K) from mt_index) ha.pe (pa_cons hb.pe pa_nil hs) hbase hfew hline hs (by rfl)) fun σ H Q ⟨G, ι, ρ, m, g, ev, p⟩ => ?_⟩
  rw [postE_G] at p
  refine tE_mono (step_e g ev p) fun v H1 ⟨G1, ι1, m1, x, x1, g1, ev1, r1, hx, p1⟩ => ?_
  cases hv : vw m1 x with
  | none => rw [hv] at p1; exact p1.elim
  | some d =>
    rw [hv] at p1
    cases d with
    | lst xs0 =>
      obtain ⟨q, vs, rfl, h, r⟩ := r1.view g1 hv
      refine ⟨.inl ⟨rfl, vs, h⟩, ?_⟩
      show tCons (tE X W fb) tNil σ H1 _
      refine tE_mono (step_e g1 ev1 p1) fun u H2 ⟨G2, ι2, m2, y, x2, g2, ev2, r2, _, p2⟩ => ?_
      show rIndex X.K (.ref q) [u] H2 Q
      rw [← postE_G] at p2
      obtain ⟨d, e, fin⟩ := post_ofO (H := H2) p2
      cases hx2 : vw m2 x with
      | none => rw [hx2] at e; cases e
      | some dx =>
        cases hy : vw m2 y with
        | none => rw [hx2, hy] at e; cases e
        | some dy =>
          rw [hx2, hy] at e
          have e' : dIndex dx dy = some d := e
          cases dx with
          | lst xs =>
            obtain ⟨q2, vs2, eq2, h2, r3⟩ := (r1.ext x2).view g2 hx2
            cases eq2
            obtain ⟨hf, e3⟩ := ite_some' e'
            rw [Bool.and_eq_true] at hf
            cases hfi : firstIx dy xs with
            | none => rw [hfi] at e3; cases e3
            | some j =>
              rw [hfi] at e3
              cases e3
              have rq := (r2.view g2 hy).sc hf.1
              obtain ⟨z, z1, z2, z3⟩ := firstIx_of rq hf.1 r3 hf.2 hfi
              exact ⟨q, vs2, u, j, z, rfl, rfl, h2, rq.flat hf.1, r3.flat hf.2, z1, z2, z3, fin.here g2 (.int _)⟩
          | _ => cases e'
    | _ => exact p1.elim
/-- a + b as a new list -/
theorem ne_cat (ha : SEx X W a fa) (hb : SEx X W b fb) : NEx X W (.BinOp a .Add b pos) (nCat fa fb) := by
  refine ⟨pe_weak (pe_op op_catQ ha.pe hb.pe) fun σ H Q ⟨G, ι, ρ, m, g, ev, p⟩ => ?_⟩
  have p' := tNE_G (f := nCat fa fb) (g0 := g) ev p
  have p2 : PostG X (fun G _ (v : Addr × List V) xs => RepAll X.kx G v.2 xs) W G ι H ((fa ρ m).bind fun x m => (fb ρ m).bind fun y m => match vw m x, vw m y with
    | some (.lst xs), some (.lst ys) => if xs.length + ys.length ≤ lineL then .ok (xs ++ ys) m else .no
    | _, _ => .no) (fun v H' => H' v.1 = none → Q (.ref v.1) (upd H' v.1 (.lst v.2))) := p'
  refine tE_mono (step_e g ev p2) fun v H1 ⟨G1, ι1, m1, x, x1, g1, ev1, r1, _, p3⟩ => ?_
  refine tE_mono (step_e g1 ev1 p3) fun u H2 ⟨G2, ι2, m2, y, x2, g2, ev2, r2, _, p4⟩ => ?_
  have p5 : PostG X (fun G _ (v : Addr × List V) xs => RepAll X.kx G v.2 xs) W G2 ι2 H2 (match vw m2 x, vw m2 y with
    | some (.lst xs), some (.lst ys) => if xs.length + ys.length ≤ lineL then .ok (xs ++ ys) m2 else .no
    | _, _ => .no) (fun v H' => H' v.1 = none → Q (.ref v.1) (upd H' v.1 (.lst v.2))) := p4
  cases hx : vw m2 x with
  | none => rw [hx] at p5; exact p5.elim
  | some dx =>
    cases hy : vw m2 y with
    | none => rw [hx, hy] at p5; cases dx <;> exact p5.elim
    | some dy =>
      rw [hx, hy] at p5
      cases dx with
      | lst xs =>
        cases dy with
        | lst ys =>
          obtain ⟨q, vs, rfl, h, r⟩ := (r1.ext x2).view g2 hx
          obtain ⟨q', vs', rfl, h', r'⟩ := r2.view g2 hy
          have p6 : PostG X (fun G _ (v : Addr × List V) xs => RepAll X.kx G v.2 xs) W G2 ι2 H2 (if xs.length + ys.length ≤ lineL then .ok (xs ++ ys) m2 else .no) (fun v H' => H' v.1 = none → Q (.ref v.1) (upd H' v.1 (.lst v.2))) := p5
          by_cases hl : xs.length + ys.length ≤ lineL
          · rw [if_pos hl] at p6
            exact ⟨q, q', vs, vs', rfl, rfl, h, h', by rw [r.length, r'.length, ← lineL_eq]; exact hl, fun pp hp => p6 (pp, vs ++ vs') G2 ι2 H2 (Ext.refl ..) g2 (r.append r') hp⟩
          · rw [if_neg hl] at p6
            exact p6.elim
        | _ => exact p5.elim
      | _ => exact p5.elim
end
end DI
namespace DI
open PySem PySem.Spec PyProof.Rows L2
theorem tw_map {α β : Type} (f : α → β) (p : β → Bool) : ∀ l : List α, ((l.map f).takeWhile p).length = (l.takeWhile fun x => p (f x)).length
  | [] => rfl
  | x :: l => by
    rw [List.map_cons, List.takeWhile_cons, List.takeWhile_cons]
    cases p (f x) with
    | true => simp [tw_map f p l]
    | false => rfl
theorem drop_tw {α : Type} (p : α → Bool) : ∀ l : List α, l.drop (l.takeWhile p).length = l.dropWhile p
  | [] => rfl
  | x :: l => by
    rw [List.takeWhile_cons, List.dropWhile_cons]
    cases p x with
    | true => simpa using drop_tw p l
    | false => rfl
theorem goes_txt (t : List Char) (c : Char) : (txt t).cps.contains c.toNat = t.contains c := by
  have inj : ∀ a b : Char, a.toNat = b.toNat → a = b := fun a b h => Char.ext (by
    have := h
    exact UInt32.toNat_inj.mp h)
  show ((t.map Char.toNat).toArray).contains c.toNat = _
  rw [List.contains_toArray]
  induction t with
  | nil => rfl
  | cons a t ih =>
    rw [List.map_cons, List.contains_cons, List.contains_cons, ih]
    congr 1
    rw [Bool.eq_iff_iff]
    simp only [beq_iff_eq]
    exact ⟨fun h => inj _ _ h, fun h => by rw [h]⟩
theorem txt_toList (s : List Char) : (txt s).cps.toList = s.map Char.toNat := by
  show ((s.map Char.toNat).toArray).toList = _
  simp
theorem lstrip_txt (s t : List Char) : Txt.lstripChars (txt s) (txt t) = txt (s.dropWhile fun c => t.contains c) := by
  unfold Txt.lstripChars
  rw [stripBy_eq]
  have e : stripLo (txt t).cps.contains true (txt s) = (s.takeWhile fun c => t.contains c).length := by
    unfold stripLo
    rw [if_pos rfl, txt_toList, tw_map]
    congr 1
    congr 1
    funext c
    exact goes_txt t c
  rw [e]
  unfold stripHi
  rw [if_neg (by decide)]
  show Str.mk (((s.map Char.toNat).toArray).extract _ _) = _
  rw [← drop_tw]
  unfold txt
  congr 1
  simp [Str.length, txt]
  exact List.take_of_length_le (by simp)
theorem rstrip_txt (s t : List Char) : Txt.rstripChars (txt s) (txt t) = txt (s.reverse.dropWhile fun c => t.contains c).reverse := by
  unfold Txt.rstripChars
  rw [stripBy_eq]
  have e0 : stripLo (txt t).cps.contains false (txt s) = 0 := by
    unfold stripLo
    rw [if_neg (by decide)]
  rw [e0]
  have e : stripHi (txt t).cps.contains true (txt s) 0 = s.length - (s.reverse.takeWhile fun c => t.contains c).length := by
    unfold stripHi
    rw [if_pos rfl, txt_toList, List.drop_zero, ← List.map_reverse, tw_map]
    have : (txt s).length = s.length := by simp [Str.length, txt]
    rw [this]
    congr 2
    congr 1
    funext c
    exact goes_txt t c
  rw [e]
  show Str.mk (((s.map Char.toNat).toArray).extract _ _) = _
  rw [← drop_tw]
  unfold txt
  congr 1
  rw [List.reverse_drop]
  simp
section
variable {X : Cx} {W : XK} {a b : Expr} {fa fb : SE} {pos apos : Pos}
theorem se_strip {nm : Str} {id : String} {f : D → D → Option D} {g : Str → Str → Str} (slot : Slot "str" nm id) (ty : typeOf (.builtin id) = pure (.type "method_descriptor")) (rule : MtR X id (fun x xs H Q => ∃ a b, x = .str a ∧ xs = [.str b] ∧ a.length ≤ sizeLine ∧ Q (.str (g a b)) H))
    (hf : ∀ s y d, f (.str s) y = some d → ∃ t r, y = .str t ∧ d = .str r ∧ s.length ≤ lineL ∧ g (txt s) (txt t) = txt r) (ha : SEx X W a fa) (hb : SEx X W b fb) (hs : starEach [b] X.env = [(false, eval b X.env)] := by rfl) (hbase : attributeBase a nm X.env (eval a X.env) = eval a X.env := by rfl) (hline : (apos.endLine == pos.line) = true := by rfl) :
    SEx X W (.Call (.Attribute a nm apos) [b] [] pos) (e2s f fa fb) := by
  refine ⟨pe_weak (pe_m1 slot ty rule ha.pe hb.pe hs hbase hline) fun σ H Q ⟨G, ι, ρ, m, g, ev, p⟩ => ?_⟩
  rw [postE_G] at p
  refine tE_mono (tE_str g ev p) fun v H1 ⟨G1, ι1, m1, s, x1, g1, ev1, ex, p1⟩ => ?_
  subst ex
  refine ⟨⟨_, rfl⟩, tE_mono (step_e g1 ev1 p1) fun u H2 ⟨G2, ι2, m2, y, x2, g2, ev2, r2, _, p2⟩ => ?_⟩
  rw [← postE_G] at p2
  obtain ⟨d, e, fin⟩ := post_ofO (H := H2) p2
  cases hy : vw m2 y with
  | none => rw [hy] at e; cases e
  | some dy =>
    rw [hy] at e
    obtain ⟨t, r, e1, e2, e3, e4⟩ := hf _ _ _ e
    subst e1 e2
    have hu : u = .str (txt t) := r2.view g2 hy
    exact ⟨txt s, txt t, rfl, by rw [hu], by rw [txt_length, ← lineL_eq]; exact e3, by rw [e4]; exact fin.here g2 (.str r)⟩
theorem se_lstrip (ha : SEx X W a fa) (hb : SEx X W b fb) (hs : starEach [b] X.env = [(false, eval b X.env)] := by rfl) (hbase : attributeBase a "lstrip" X.env (eval a X.env) = eval a X.env := by rfl) (hline : (apos.endLine == pos.line) = true := by rfl) :
    SEx X W (.Call (.Attribute a "lstrip" apos) [b] [] pos) (e2s dLstrip fa fb) :=
  se_strip PySem.F.slot_str_lstrip PySem.F.type_str_lstrip mt_lstripChars (fun s y d h => by
    cases y with
    | str t =>
      obtain ⟨h1, h2⟩ := ite_some (show (if s.length ≤ lineL then some (D.str (s.dropWhile fun c => t.contains c)) else none) = some d from h)
      exact ⟨t, _, rfl, h2.symm, h1, lstrip_txt s t⟩
    | _ => cases h) ha hb hs hbase hline
theorem se_rstrip (ha : SEx X W a fa) (hb : SEx X W b fb) (hs : starEach [b] X.env = [(false, eval b X.env)] := by rfl) (hbase : attributeBase a "rstrip" X.env (eval a X.env) = eval a X.env := by rfl) (hline : (apos.endLine == pos.line) = true := by rfl) :
    SEx X W (.Call (.Attribute a "rstrip" apos) [b] [] pos) (e2s dRstrip fa fb) :=
  se_strip PySem.F.slot_str_rstrip PySem.F.type_str_rstrip mt_rstripChars (fun s y d h => by
    cases y with
    | str t =>
      obtain ⟨h1, h2⟩ := ite_some (show (if s.length ≤ lineL then some (D.str (s.reverse.dropWhile fun c => t.contains c).reverse) else none) = some d from h)
      exact ⟨t, _, rfl, h2.symm, h1, rstrip_txt s t⟩
    | _ => cases h) ha hb hs hbase hline
end
end DI
namespace DI
open PySem PySem.Spec PyProof.Rows L2
open HotX (HotAt raiseNew_hot)
/-! ### iterators that end while an exception is handled -/
theorem hotTo {A B : Around} {x1 : Addr} {h h' : Heap} (t : HotAt A x1 h) (e : B.handled = A.handled) (k : ∀ o, h.get? x1 = some o → h'.get? x1 = some o) : HotAt B x1 h' := by
  obtain ⟨hh, o, vs, g, d, c⟩ := t
  exact ⟨e.trans hh, o, vs, k o g, d, c⟩
theorem in1_handled (A : Around) : A.in1.handled = A.handled := rfl
section
variable {prog : Program} {w : World} {A : Around} {E : Value → Shared → Prop} {s : Shared}
/-- a new StopIteration, raised -/
theorem stopH {α : Type} {x1 : Addr} {Q : α → Shared → Prop} (t : HotAt A x1 s.heap)
    (hE : ∀ h' e, (∀ b ob, s.heap.get? b = some ob → h'.get? b = some ob) → (∃ ob, h'.get? e = some ob ∧ ob.cls = .type "StopIteration") → E (.ref e) { s with heap := h' }) :
    wpAny (model prog w) A (newExc (.type "StopIteration") [] >>= fun e => (raiseNew e : Sem α)) Q E s := by
  obtain ⟨hh, o1, vs1, g1, d1, c1⟩ := t
  refine wpAny_bind ?_
  simp only [newExc, newTuple]
  refine wpAny_bind (wpAny_newObj_type ?_ (by size_fits))
  refine wpAny_bind (m := firstArgMember _ _) (wpAny_of_eq (a := Value.none) (by first | rfl | (simp only [firstArgMember]; rfl)) ?_)
  refine wpAny_newObj_type ?_ (by size_fits)
  have up : ∀ {a b : Obj} {c : Addr} {ob : Obj}, s.heap.get? c = some ob → ((s.heap.push a).push b).get? c = some ob := fun e => Heap.get?_push_of_some _ (Heap.get?_push_of_some _ e)
  refine raiseNew_hot ⟨hh, o1, vs1, up g1, d1, c1⟩ (Nat.ne_of_lt (Heap.lt_size (Heap.get?_push_of_some _ g1))) (Heap.get?_push_size _ rfl) rfl (by first | (simp; done) | (simp; omega) | (simp only [Array.size_append]; simp; omega)) ?_
  refine hE _ _ (fun b ob eb => ?_) ⟨_, Heap.get?_update_self _ (Heap.get?_push_size _ rfl) rfl, rfl⟩
  rw [Heap.get?_update_other _ _ (Nat.ne_of_gt (Heap.lt_size (Heap.get?_push_of_some _ eb)))]
  exact up eb
theorem nextOf_listH {it l x1 : Addr} {i : Nat} {its : Array Value} {Q : Value → Shared → Prop} (t : HotAt A x1 s.heap) (nx : x1 ≠ it) (hit : s.heap.IsListIter it l i) (hl : s.heap.IsList l its) (hx : its[i]? = none)
    (hE : ∀ h' e, Heap.ExtBut it s.heap h' → (∃ ob, h'.get? e = some ob ∧ ob.cls = .type "StopIteration") → E (.ref e) { s with heap := h' }) :
    wpAny (model prog w) A (Builtin.SmallTypes.nextOf (.ref it)) Q E s := by
  obtain ⟨oi, hoi, _, di⟩ := id hit
  obtain ⟨ol, hol, _, nl, dl⟩ := hl
  unfold Builtin.SmallTypes.nextOf
  refine wpAny_bind (wpAny_callSpecial?_slot (name := Str.ofString "__next__") hit.typeIs slot_listiter_next (wpAny_call_entry slot_listiter_next hit.typeIs entry_listiter_next ?_ (args_listiter_next _)))
  show wpAny _ _ (field (.ref it) 0 >>= _) _ _ s
  refine wpAny_bind (wpAny_field hoi di (x := .ref l) rfl ?_)
  show wpAny _ _ (if (Value.ref l == Value.none) = true then _ else _) _ _ s
  rw [if_neg (show ¬ ((Value.ref l == Value.none) = true) from Bool.false_ne_true)]
  show wpAny _ _ (field (.ref it) 1 >>= _) _ _ s
  refine wpAny_bind (wpAny_field hoi di (x := .int i 0) rfl ?_)
  show wpAny _ _ (seqItems? (.ref l) >>= _) _ _ s
  refine wpAny_bind (wpAny_seqItems hol dl ?_)
  simp only [Int.toNat_natCast, hx]
  refine wpAny_bind (wpAny_rule (wpAny_bind (wpAny_setField hoi di (by simp) ?_)))
  refine stopH (x1 := x1) (hotTo t rfl fun ob g => ?_) fun h' e k he => ?_
  · show (s.heap.update it _).get? x1 = _
    rw [Heap.get?_update_other _ _ (Ne.symm nx)]; exact g
  · exact hE h' e (fun b ob hb g => k b ob ((Heap.SameBut.update ..).extBut b ob hb g)) he
theorem pyNext_tupH {it l x1 : Addr} {i : Nat} {its : Array Value} {Q : Option Value → Shared → Prop} (t : HotAt A x1 s.heap) (nx : x1 ≠ it) (hit : IsTupIter s.heap it l i) (hl : IsTup s.heap l its) (hx : its[i]? = none)
    (hQ : ∀ h', Heap.ExtBut it s.heap h' → Q none { s with heap := h' }) : wpAny (model prog w) A (pyNext (.ref it)) Q E s := by
  obtain ⟨oi, hoi, _, di⟩ := id hit
  obtain ⟨ol, hol, _, nl, dl⟩ := hl
  unfold pyNext
  refine wpAny_bind (wpAny_attempt (wpAny_callSpecial?_slot (name := Str.ofString "__next__") hit.typeIs slot_tupleiter_next (wpAny_call_entry slot_tupleiter_next hit.typeIs entry_tupleiter_next ?_ (args_tupleiter_next _))))
  show wpAny _ _ (field (.ref it) 0 >>= _) _ _ s
  refine wpAny_bind (wpAny_field hoi di (x := .ref l) rfl ?_)
  show wpAny _ _ (if (Value.ref l == Value.none) = true then _ else _) _ _ s
  rw [if_neg (show ¬ ((Value.ref l == Value.none) = true) from Bool.false_ne_true)]
  show wpAny _ _ (field (.ref it) 1 >>= _) _ _ s
  refine wpAny_bind (wpAny_field hoi di (x := .int i 0) rfl ?_)
  show wpAny _ _ (seqItems? (.ref l) >>= _) _ _ s
  refine wpAny_bind (wpAny_seqItems hol dl ?_)
  simp only [Int.toNat_natCast, hx]
  refine wpAny_bind (wpAny_rule (wpAny_bind (wpAny_setField hoi di (by simp) ?_)))
  refine stopH (x1 := x1) (hotTo t rfl fun ob g => ?_) fun h' e k he => ?_
  · show (s.heap.update it _).get? x1 = _
    rw [Heap.get?_update_other _ _ (Ne.symm nx)]; exact g
  · obtain ⟨ob, g, c⟩ := he
    refine wpAny_bind (wpAny_isInstance (T := "StopIteration") (b := true) ⟨ob, g, c⟩ isSubtype_stop ?_)
    exact wpAny_pure (hQ h' fun b ob hb g => k b ob ((Heap.SameBut.update ..).extBut b ob hb g))
/-- a tuple unpacked into that many targets -/
theorem assign_tupH {env : PySem.Env} {elts : List Expr} {kk : Nat} {pos : Pos} {l x1 : Addr} {its : Array Value} {Q : Unit → Shared → Prop} (t : HotAt A x1 s.heap) (hl : IsTup s.heap l its)
    (hn : (assignEach elts env).length = its.size) (hst : (assignEach elts env).findIdx? (·.1) = none)
    (h : ∀ h', Heap.ExtBut s.heap.objs.size s.heap h' → wpAny (model prog w) A (assignInOrder ((assignEach elts env).map (·.2)) its.toList) Q E { s with heap := h' }) :
    wpAny (model prog w) A (assign (.Tuple elts kk pos) env (.ref l)) Q E s := by
  rw [assign_Tuple]
  refine wpAny_bind (wpAny_standAt ?_)
  unfold unpack
  rw [hn, hst]
  have hne : l ≠ s.heap.objs.size := by obtain ⟨o, ho, _⟩ := hl; exact Nat.ne_of_lt (Heap.lt_size ho)
  have hx1 : x1 ≠ s.heap.objs.size := by obtain ⟨_, o, _, ho, _⟩ := t; exact Nat.ne_of_lt (Heap.lt_size ho)
  refine wpAny_bind (wpAny_holding ?_)
  unfold unpackItems
  refine wpAny_bind ?_
  · unfold notIterableAtAll
    refine wpAny_bind (wpAny_specialOf hl.typeIs slot_tuple_iter.lookup (wpAny_pure ?_))
    simp only [Bool.false_eq_true, if_false]
    refine wpAny_bind (wpAny_holding (iter_tuple hl (wpAny_bind (wpAny_holding (draw_tuple hne its.size 0 _ _ ⟨_, Heap.get?_push_size _ rfl, rfl, rfl⟩ (hl.push _) (by omega) fun h₁ hit₁ hs₁ => ?_)))))
    have whole : List.take its.size (List.drop 0 its.toList) = its.toList := by
      rw [List.drop_zero]; exact List.take_of_length_le (by simp)
    rw [whole, if_neg (by simp)]
    have hl₁ : IsTup h₁ l its := (hl.push _).extBut hs₁.extBut hne
    refine wpAny_bind (wpAny_holding (pyNext_tupH (x1 := x1) (hotTo t rfl fun o g => hs₁.extBut _ _ hx1 (Heap.get?_push_of_some _ g)) hx1 hit₁ hl₁ (by simp) fun h₂ he₂ => ?_))
    simp only [Option.isSome_none, Bool.false_eq_true, if_false]
    exact wpAny_pure (h h₂ fun b o hb e => he₂ b o hb (hs₁.extBut b o hb (Heap.get?_push_of_some _ e)))
end
theorem drawsListH {prog : Program} {w : World} {A : Around} {x1 : Addr} (it l : Addr) (hne : l ≠ it) (nx : x1 ≠ it) (its : Array Value) :
    Draws prog w A it [it, l, x1] its.size (fun i v => its[i]? = some v) (fun i h => (h.IsListIter it l i ∧ h.IsList l its) ∧ HotAt A x1 h) where
  live := fun _ _ st => let ⟨o, ho, _⟩ := st.1.1; ⟨o, ho⟩
  frame := fun _ _ _ st hk => ⟨⟨st.1.1.at fun o e => hk it (by simp) o e, st.1.2.at fun o e => hk l (by simp) o e⟩, hotTo st.2 rfl fun o g => hk x1 (by simp) o g⟩
  item := fun i s Q E hi st hQ => by
    refine wpAny_nextOf_list_item st.1.1 st.1.2 (x := its[i]) (by simp [hi]) fun h' hit' hs' => ?_
    exact hQ _ h' s.toks (by simp [hi]) ⟨⟨hit', st.1.2.extBut hs'.extBut hne⟩, hotTo st.2 rfl fun o g => hs'.extBut _ _ nx g⟩ hs'
  done := fun s Q E st hE => nextOf_listH st.2 nx st.1.1 st.1.2 (by simp) hE
end DI
namespace DI
open PySem PySem.Spec PyProof.Rows L2
open HotX (HotAt)
/-- the handled exception stands in every state of the context -/
def HotK (X : Cx) (p : Addr × Obj) : Prop := L2H.Hot1 X.A p ∧ (∀ v, p.2.data ≠ .cell v) ∧ (p ∈ X.pn ∨ (X.s_0.heap.get? p.1 = some p.2 ∧ X.H_0 p.1 = none ∧ p.1 ∉ X.fs ∧ p.1 ∉ X.ex))
section
variable {X : Cx} {p : Addr × Obj} {pins : List (Addr × Obj)} {σ : L2.St} {H : Hp} {s : Shared}
theorem HotK.there (h : HotK X p) (I : Inv X pins σ H s) : s.heap.get? p.1 = some p.2 ∧ H p.1 = none := by
  rcases h.2.2 with q | ⟨h1, h2, h3, h4⟩
  · exact ⟨(I.pin p (List.mem_append_left _ q)).1, (I.pin p (List.mem_append_left _ q)).2.1⟩
  · exact ⟨I.base.keep _ _ h1 h2 h3 h4, I.base.free _ _ h1 h2 h4⟩
theorem HotK.at (h : HotK X p) (I : Inv X pins σ H s) : HotAt X.A p.1 s.heap := by
  obtain ⟨hh, vs, e, c⟩ := h.1
  exact ⟨hh, p.2, vs, (h.there I).1, e, c⟩
/-- turns of an iterator, in contexts of a kind -/
structure TurnX (C : Cx → Prop) (P : Program) (w : World) (K : PySem.W.Frag) (tg : Expr) (J : It) (fp : List Addr) (it : Addr) (tn : Nat → Heap → Prop) : Prop where
  mem : it ∈ fp
  obj : ∀ i h, tn i h → ∀ b ∈ fp, ∃ o, h.get? b = some o ∧ ∀ v, o.data ≠ .cell v
  keep : ∀ i h h', tn i h → (∀ b ∈ fp, ∀ o, h.get? b = some o → h'.get? b = some o) → tn i h'
  item : ∀ (X : Cx), X.prog = P → X.w = w → X.K = K → C X → ∀ (i : Nat) (pins : List (Addr × Obj)) (s : Shared) (σ : L2.St) (H : Hp) (E : Value → Shared → Prop), Inv X pins σ H s → (∀ b ∈ fp, FpOk X pins H b) → tn i s.heap → J.go i H →
    wpAny (model P w) X.A (pyNext (.ref it)) (fun r s1 => ∃ u, r = some u ∧
      wpAny (model P w) X.A (letOwnedTupleGo tg (.ref it) u) (fun _ s2 => ∃ x H', Inv X pins σ H' s2 ∧ RelV x u ∧ J.yld i H x H' ∧ tn (i + 1) s2.heap ∧ ∀ b ∈ fp, H' b = none) E s1) E s
  done : ∀ (X : Cx), X.prog = P → X.w = w → X.K = K → C X → ∀ (i : Nat) (pins : List (Addr × Obj)) (s : Shared) (σ : L2.St) (H : Hp) (E : Value → Shared → Prop), Inv X pins σ H s → (∀ b ∈ fp, FpOk X pins H b) → tn i s.heap → J.stop i H →
    wpAny (model P w) X.A (pyNext (.ref it)) (fun r s1 => r = none ∧ Inv X pins σ H s1) E s
  self : ∀ (A : Around) (i : Nat) (s : Shared) (Q : Value → Shared → Prop) (E : Value → Shared → Prop), tn i s.heap → Q (.ref it) s → wpAny (model P w) A (pyIter (.ref it)) Q E s
def PIEX (C : Cx → Prop) (X : Cx) (pins : List (Addr × Obj)) (σ : L2.St) (tg : Expr) (R : It → Hp → Prop) (itv : Value) (s2 : Shared) : Prop :=
  ∃ (it : Addr) (fp : List Addr) (tn : Nat → Heap → Prop) (J : It) (H' : Hp), itv = .ref it ∧ Inv X pins σ H' s2 ∧ TurnX C X.prog X.w X.K tg J fp it tn ∧ tn 0 s2.heap ∧ (∀ b ∈ fp, FpOk X pins H' b) ∧ R J H'
structure PIX (C : Cx → Prop) (X : Cx) (tg iter : Expr) (wi : TI) : Prop where
  run : ∀ (pins : List (Addr × Obj)) (s : Shared) (σ : L2.St) (H : Hp) (R : It → Hp → Prop), Inv X pins σ H s → wi σ H R →
    wpAny (model X.prog X.w) X.A (eval iter X.env) (fun v s1 => wpAny (model X.prog X.w) X.A (pyIter v) (PIEX C X pins σ tg R) X.xe s1) X.xe s
/-- the block's context is hot as well -/
theorem HotK.blk (h : HotK X p) (I : Inv X pins σ H s) {scope : Scope} {cenv : PySem.Env} {fp : List Addr} (hf : ∀ b ∈ fp, p.1 ≠ b) : HotK (X.blk s H scope cenv fp) p := by
  obtain ⟨t1, t2⟩ := h.there I
  refine ⟨h.1, h.2.1, .inr ⟨t1, t2, fun z => ?_, fun z => hf _ z rfl⟩⟩
  -- no frame of the stack
  have z' : p.1 ∈ frs X.stack := z
  obtain ⟨_, o, ho, hnf⟩ := I.stack.mem z'
  rw [t1] at ho
  cases ho
  obtain ⟨_, vs, e, _⟩ := h.1
  exact hnf vs e
/-- a comprehension where an exception is handled -/
theorem lcX {C : Cx → Prop} {Q : VK} {elt tg iter : Expr} {ifs : List Expr} {scope : Scope} {own : List (Str × Nat)} {pos pos' : Pos} {wi : TI} {g : TG} {tt : TT} {te : TE} {use : Option (Value → Sem Unit)} {Qf : Value → Shared → Prop} (hk : HotK X p) (hC : ∀ Y : Cx, HotK Y p → C Y) (hN : X.N.Nodup) (I : Inv X pins σ H s) (hi : PIX C X tg iter wi) (ok : BlkOk X.N X.env.scope scope own)
    (hg : ∀ (s : Shared) (H : Hp) (c : Addr) (cl : List (Str × Addr)) (fp : List Addr), HotK (X.blk s H scope (compEnvC scope cl c X.env) fp) p → PG (X.blk s H scope (compEnvC scope cl c X.env) fp) tg g) (ht : ∀ (s : Shared) (H : Hp) (c : Addr) (cl : List (Str × Addr)) (fp : List Addr), PTs (X.blk s H scope (compEnvC scope cl c X.env) fp) ifs tt)
    (he : ∀ (s : Shared) (H : Hp) (c : Addr) (cl : List (Str × Addr)) (fp : List Addr), PE (X.blk s H scope (compEnvC scope cl c X.env) fp) elt te) (hs : ∀ x, foldedSetIterable iter X.env x = pure x) (h : tLc wi g tt te (own.map (·.2)) σ H Q)
    (hE : ∀ L B s' m H', Inv X pins σ H' s' → Q (.ref L) H' → s'.heap.Ns B m → FpOk X pins H' B → compPost (model X.prog X.w) X.A X.xe use Qf (.ref L) B (.ok .next) s') :
    wpAny (model X.prog X.w) X.A (comprehension (.ListComp elt [⟨tg, iter, ifs, 0⟩] scope pos) scope X.env pos' (newList []) false (eval iter X.env) use) Qf X.xe s := by
  have hfree : ∀ y ∈ scope.names, y.2 = .free → ∃ c, X.env.cells.lookup y.1 = some c := fun y hy e => I.ok.has _ (ok.free y hy e)
  refine wpAny_comprehension_free (use := use) rfl hs (closure_ok hfree) ok.kind (fun y hy e => by rw [ok.uniq y hy, e]) (thn (hi.run pins s σ H _ I h) fun xv s1 hx => thn hx fun itv s2 h2 => ?_)
  obtain ⟨it, fp, tn, J, H2, e, I2, T, st2, f2, q⟩ := h2
  subst e
  refine wpAny_newObj_type (newEnv_comp ?_) (by show 0 ≤ sizeLine; decide)
  generalize hD : s2.heap.objs.size = Dn
  have hDn : H2 Dn = none := I2.hok.fresh (Nat.le_of_eq hD)
  obtain ⟨Wm, ⟨m0, w0⟩, turn⟩ := q Dn hDn
  -- the new list
  generalize hs3 : ({ s2 with heap := s2.heap.push { cls := .type "list", data := .seq ([] : List Value).toArray } } : Shared) = s3
  have h3 : s3.heap = s2.heap.push { cls := .type "list", data := .seq ([] : List Value).toArray } := by rw [← hs3]
  have I3 : Inv X pins σ (upd H2 Dn (.lst [])) s3 := by
    rw [← hs3]
    refine I2.laid (t' := s2.toks) (fun b ob eb => Heap.get?_push_of_some _ eb) (Nat.le_of_eq hD) ⟨Nat.zero_le _, [], 0, .nil, ?_⟩
    rw [← hD]
    exact Heap.get?_push_size _ rfl
  have f3 : ∀ b ∈ fp, FpOk X pins (upd H2 Dn (.lst [])) b ∧ b < s3.heap.objs.size := fun b hb => by
    obtain ⟨ob, eb, _⟩ := T.obj _ _ st2 b hb
    have hlt := Heap.lt_size eb
    refine ⟨⟨?_, (f2 b hb).2⟩, by rw [h3, Heap.size_push]; exact Nat.lt_succ_of_lt hlt⟩
    rw [upd_ne (by rw [← hD]; exact Nat.ne_of_lt hlt)]
    exact (f2 b hb).1
  have st3 : tn 0 s3.heap := T.keep _ _ _ st2 fun b _ ob eb => by rw [h3]; exact Heap.get?_push_of_some _ eb
  have nfp : ∀ b ∈ fp, (upd H2 Dn (.lst [])) b = none := fun b hb => (f3 b hb).1.1
  have pfp : ∀ b ∈ fp, p.1 ≠ b := fun b hb z => by
    obtain ⟨t1, t2⟩ := hk.there I3
    rcases hk.2.2 with q' | ⟨k1, k2, k3, k4⟩
    · exact (f3 b hb).1.2.2.2.2.2 p (List.mem_append_left _ q') z
    · rcases (f3 b hb).1.2.2.2.1 with z2 | z2
      · exact k4 (z ▸ z2)
      · exact absurd (Nat.lt_of_lt_of_le (Heap.lt_size k1) (by rw [z]; exact z2)) (Nat.lt_irrefl _)
  have I4 := block_start I3 ok hN f3
  have hot4 : HotK (X.blk s3 (upd H2 Dn (.lst [])) scope (compEnvC scope (cellsFrom (s3.heap.objs.size + 1) scope.names (cloFrom X.env.cells scope.names [])) s3.heap.objs.size X.env) fp) p := hk.blk I3 pfp
  have pg := hg s3 (upd H2 Dn (.lst [])) s3.heap.objs.size (cellsFrom (s3.heap.objs.size + 1) scope.names (cloFrom X.env.cells scope.names [])) fp hot4
  have pt := ht s3 (upd H2 Dn (.lst [])) s3.heap.objs.size (cellsFrom (s3.heap.objs.size + 1) scope.names (cloFrom X.env.cells scope.names [])) fp
  have pe := he s3 (upd H2 Dn (.lst [])) s3.heap.objs.size (cellsFrom (s3.heap.objs.size + 1) scope.names (cloFrom X.env.cells scope.names [])) fp
  show codeAny _ _ (.compStart (.ListComp elt [⟨tg, iter, ifs, 0⟩] scope pos) 0 (.ref it) (.ref Dn) (compEnvC scope (cellsFrom (s3.heap.objs.size + 1) scope.names (cloFrom X.env.cells scope.names [])) s3.heap.objs.size X.env)) (compPost (model X.prog X.w) X.A X.xe use Qf (.ref Dn) s3.heap.objs.size) { s3 with heap := pushCells (s3.heap.push { cls := .type "dict", data := .dict #[] }) scope.names }
  generalize hce : compEnvC scope (cellsFrom (s3.heap.objs.size + 1) scope.names (cloFrom X.env.cells scope.names [])) s3.heap.objs.size X.env = ce at I4 pg pt pe hot4 ⊢
  have cL : ce.locals = s3.heap.objs.size := by subst hce; rfl
  generalize hH3 : upd H2 Dn (.lst []) = H3 at I3 I4 pg pt pe w0 nfp f3 hot4
  generalize hs4 : ({ s3 with heap := pushCells (s3.heap.push { cls := .type "dict", data := .dict #[] }) scope.names } : Shared) = s4 at I4 ⊢
  have st4 : tn 0 s4.heap := T.keep _ _ _ st3 fun b _ ob eb => by rw [← hs4]; exact pushCells_keeps _ _ _ _ (Heap.get?_push_of_some _ eb)
  have cY : C (X.blk s3 H3 scope ce fp) := hC _ hot4
  have stat : ∀ {σ' : L2.St} {H' : Hp} {s' : Shared}, Inv (X.blk s3 H3 scope ce fp) [] σ' H' s' → (∀ b ∈ fp, H' b = none) → ∀ b ∈ fp, FpOk (X.blk s3 H3 scope ce fp) [] H' b := fun {σ' H' s'} I' hn b hb =>
    ⟨hn b hb, (I'.ok.exf b hb).1, I'.ok.exfs b hb, .inl hb, fun x c eb => (I'.ok.exf b hb).2 x c eb, fun r hr => absurd (show r ∈ ([] : List (Addr × Obj)) ++ [] from hr) (by simp)⟩
  have loop : codeAny (model X.prog X.w) X.A (.compLoop (.ListComp elt [⟨tg, iter, ifs, 0⟩] scope pos) 0 (.ref it) (.ref Dn) ce) (compPost (model X.prog X.w) X.A X.xe use Qf (.ref Dn) s3.heap.objs.size) s4 := by
    refine compLoop_any (fun n s' => ∃ i H', Inv (X.blk s3 H3 scope ce fp) [] (wipe σ (own.map (·.2))) H' s' ∧ tn i s'.heap ∧ (∀ b ∈ fp, H' b = none) ∧ Wm i n H') ?_ m0 ⟨0, H3, I4, st4, nfp, w0⟩
    rintro n s5 ⟨i, H5, I5, st5, n5, w5⟩
    rcases turn i n H5 w5 with ⟨stop, qq⟩ | ⟨go, Nx, hNx, step⟩
    · refine thnF (T.done (X.blk s3 H3 scope ce fp) rfl rfl rfl cY i [] s5 _ H5 (fun _ _ => False) I5 (stat I5 n5) st5 stop) fun r s6 ⟨hr, I6⟩ => ?_
      subst hr
      have I7 : Inv X pins σ H5 s6 := I3.call' (ch := fp) I6.os I6.base I6.hok I6.bare fun b hb => ⟨(f3 b hb).1.2.2.2.1, (f3 b hb).1.2.1, (f3 b hb).1.2.2.2.2.1, (f3 b hb).1.2.2.2.2.2⟩
      have nC : H5 s3.heap.objs.size = none := by
        have z : H5 ce.locals = none := I6.free
        rw [cL] at z
        exact z
      obtain ⟨mm, hn, _⟩ := I6.loc
      have hn : s6.heap.Ns ce.locals mm := hn
      rw [cL] at hn
      exact hE Dn s3.heap.objs.size s6 mm H5 I7 qq hn (I3.fpOk (Nat.le_refl _) nC)
    · refine thnF (T.item (X.blk s3 H3 scope ce fp) rfl rfl rfl cY i [] s5 _ H5 (fun _ _ => False) I5 (stat I5 n5) st5 go) fun r s6 ⟨u, hr, h6⟩ => ?_
      subst hr
      refine thnF h6 fun _ s7 ⟨x, H7, I7, r7, y7, st7, n7⟩ => ?_
      have I7' := I7.pinned (stat I7 n7) (T.obj _ _ st7)
      refine thnF (pg.run _ s7 _ H7 x u _ I7' r7 (step x H7 y7)) fun _ s8 ⟨σ8, H8, I8, hw8, q8⟩ => ?_
      refine thnF (pt.run _ s8 σ8 H8 _ I8 q8) fun b s9 ⟨H9, I9, q9⟩ => ?_
      have fin : ∀ {s' : Shared} {H' : Hp}, Inv (X.blk s3 H3 scope ce fp) ([] ++ pinsAt fp s7.heap) σ8 H' s' → Nx H' → ∃ m, m < n ∧ ∃ i H', Inv (X.blk s3 H3 scope ce fp) [] (wipe σ (own.map (·.2))) H' s' ∧ tn i s'.heap ∧ (∀ b ∈ fp, H' b = none) ∧ Wm i m H' := fun {s' H'} I' nx => by
        obtain ⟨m', hm, w'⟩ := hNx H' nx
        have pin' : ∀ b ∈ fp, ∀ ob, s7.heap.get? b = some ob → s'.heap.get? b = some ob ∧ H' b = none := fun b hb ob eb =>
          let z := I'.pin (b, ob) (List.mem_append_right _ (List.mem_append_right _ (mem_pinsAt hb eb)))
          ⟨z.1, z.2.1⟩
        have hl : (wipe σ (own.map (·.2))).length = σ8.length := by rw [← hw8, wipe_length]
        refine ⟨m', hm, i + 1, H', (I'.unpinned (pins := [])).weak hl (fun j v ej => ?_), T.keep _ _ _ st7 fun b hb ob eb => (pin' b hb ob eb).1, fun b hb => ?_, w'⟩
        · rw [← hw8] at ej
          exact (wipe_some ej).1
        · obtain ⟨ob, eb, _⟩ := T.obj _ _ st7 b hb
          exact (pin' b hb ob eb).2
      cases b with
      | false =>
        simp only [Bool.false_eq_true, if_false] at q9 ⊢
        exact fin I9 q9
      | true =>
        simp only [if_true] at q9 ⊢
        refine thnF (pe.run _ s9 σ8 H9 _ I9 q9) fun z s10 ⟨yv, H10, I10, r10, acc, hD10, hz10, nx⟩ => ?_
        exact app_ok (X := X.blk s3 H3 scope ce fp) I10 hD10 hz10 r10 fun s11 I11 => fin I11 nx
  exact codeAny_compStart_list loop (T.self X.A 0 _ _ _ st4 loop)
section
variable {C : Cx → Prop} {elt tg iter : Expr} {ifs : List Expr} {scope : Scope} {own : List (Str × Nat)} {pos : Pos} {wi : TI} {g : TG} {tt : TT} {te : TE}
theorem pe_lcX (hk : HotK X p) (hC : ∀ Y : Cx, HotK Y p → C Y) (hN : X.N.Nodup) (hi : PIX C X tg iter wi) (ok : BlkOk X.N X.env.scope scope own)
    (hg : ∀ (s : Shared) (H : Hp) (c : Addr) (cl : List (Str × Addr)) (fp : List Addr), HotK (X.blk s H scope (compEnvC scope cl c X.env) fp) p → PG (X.blk s H scope (compEnvC scope cl c X.env) fp) tg g) (ht : ∀ (s : Shared) (H : Hp) (c : Addr) (cl : List (Str × Addr)) (fp : List Addr), PTs (X.blk s H scope (compEnvC scope cl c X.env) fp) ifs tt)
    (he : ∀ (s : Shared) (H : Hp) (c : Addr) (cl : List (Str × Addr)) (fp : List Addr), PE (X.blk s H scope (compEnvC scope cl c X.env) fp) elt te) (hs : ∀ x, foldedSetIterable iter X.env x = pure x := by intro _; rfl) :
    PE X (.ListComp elt [⟨tg, iter, ifs, 0⟩] scope pos) (tLc wi g tt te (own.map (·.2))) := by
  refine ⟨fun pins s σ H Q I h => ?_⟩
  rw [eval_ListComp]
  refine lcX hk hC hN I hi ok hg ht he hs h fun L B s' m H' I' q hn f => ⟨m, hn, fun h'' sb => ?_⟩
  exact ⟨.ref L, H', I'.turned (t' := s'.toks) (fun b ob hb eb => (sb.2 b hb).trans eb) f.1 f.2.1 f.2.2.2.1 f.2.2.2.2.1 f.2.2.2.2.2, rfl, q⟩
/-- name = [..], in one row -/
theorem ps_setLcX {i : Nat} {y : Str} {py spos : Pos} (hk : HotK X p) (hC : ∀ Y : Cx, HotK Y p → C Y) (hN : X.N.Nodup) (hy : X.N[i]? = some y) (hyl : X.env.scope.names.lookup y = some .local)
    (hsw : swapsWith (.ListComp elt [⟨tg, iter, ifs, 0⟩] scope pos) (some (.Name y py)) spos.line X.env = pure true) (hi : PIX C X tg iter wi) (ok : BlkOk X.N X.env.scope scope own)
    (hg : ∀ (s : Shared) (H : Hp) (c : Addr) (cl : List (Str × Addr)) (fp : List Addr), HotK (X.blk s H scope (compEnvC scope cl c X.env) fp) p → PG (X.blk s H scope (compEnvC scope cl c X.env) fp) tg g) (ht : ∀ (s : Shared) (H : Hp) (c : Addr) (cl : List (Str × Addr)) (fp : List Addr), PTs (X.blk s H scope (compEnvC scope cl c X.env) fp) ifs tt)
    (he : ∀ (s : Shared) (H : Hp) (c : Addr) (cl : List (Str × Addr)) (fp : List Addr), PE (X.blk s H scope (compEnvC scope cl c X.env) fp) elt te) (hs : ∀ x, foldedSetIterable iter X.env x = pure x := by intro _; rfl) :
    PS X (.Assign [.Name y py] (.ListComp elt [⟨tg, iter, ifs, 0⟩] scope pos) spos) (tAsg (tLc wi g tt te (own.map (·.2))) (gName i)) := by
  refine ⟨fun pins s σ H D I h => ?_⟩
  rw [exec_Assign_Name_used _ _ _ _ hsw]
  refine wpAny_bind (wpAny_standAt (wpAny_bind ?_))
  show wpAny _ X.A (do let _ ← comprehension (.ListComp elt [⟨tg, iter, ifs, 0⟩] scope pos) scope X.env (firstIterPos [⟨tg, iter, ifs, 0⟩] pos) (newList []) false (eval iter X.env) (some (assign (.Name y py) X.env))) _ _ s
  have h' : tLc wi g tt te (own.map (·.2)) σ H (fun x H1 => gName i x σ H1 D.nx) := h
  refine wpAny_bind (thn (lcX (Qf := fun _ s' => SP X pins D .next s') hk hC hN I hi ok hg ht he hs h' fun L B s' m H' I' q hn f => ?_) fun _ s' hq => wpAny_pure (wpAny_pure hq))
  show wpAny _ _ (assign (.Name y py) X.env (.ref L)) _ _ _
  refine wpAny_assign_Name (store_ok2 (v := V.ref L) I' hN hy (.inl hyl) rfl (fun s2 I2 ⟨a, sb, ha⟩ => ?_) (.inr hyl))
  have hB : B ≠ a := by
    rcases ha with z | z
    · rw [z]; exact f.2.1
    · exact fun e => f.2.2.2.2.1 y a z e.symm
  refine ⟨m, hn.sameBut sb hB, fun h3 sb3 => ?_⟩
  exact ⟨_, H', I2.turned (t' := s2.toks) (fun b ob hb eb => (sb3.2 b hb).trans eb) f.1 f.2.1 f.2.2.2.1 f.2.2.2.2.1 f.2.2.2.2.2, q⟩
end
end
end DI
namespace DI
open PySem PySem.Spec PyProof.Rows L2
open HotX (HotAt)
/-! ### zip of two lists, a pair unpacked, where an exception is handled -/
theorem HotK.ne {X : Cx} {p : Addr × Obj} {pins : List (Addr × Obj)} {H : Hp} {b : Addr} (h : HotK X p) (f : FpOk X pins H b) : p.1 ≠ b := fun z => by
  rcases h.2.2 with q' | ⟨k1, k2, k3, k4⟩
  · exact f.2.2.2.2.2 p (List.mem_append_left _ q') z
  · rcases f.2.2.2.1 with z2 | z2
    · exact k4 (z ▸ z2)
    · exact absurd (Nat.lt_of_lt_of_le (Heap.lt_size k1) (by rw [z]; exact z2)) (Nat.lt_irrefl _)
theorem or3 {a b c : Prop} (h : a ∨ b ∨ c) (f : a → False) (g : b → False) (k : c → False) : False := h.elim f fun h => h.elim g k
theorem drawH {X : Cx} {pins : List (Addr × Obj)} {σ : L2.St} {H : Hp} {s : Shared} {A : Around} {it a x1 : Addr} {i : Nat} {xs : List V} (I : Inv X pins σ H s) (t : HotAt A x1 s.heap) (nx : x1 ≠ it) (hne : a ≠ it) (h : SqL X.K H a xs) (st : s.heap.IsListIter it a i) :
    ∃ (fp : List Addr) (n : Nat) (P : Nat → Value → Prop) (St : Nat → Heap → Prop), Draws X.prog X.w A it fp n P St ∧ St i s.heap ∧ n = xs.length ∧ (∀ j v, P j v → ∃ x, xs[j]? = some x ∧ RelV x v) ∧ (∀ j h', St j h' → h'.IsListIter it a j) ∧ (∀ b ∈ fp, b = it ∨ b = a ∨ b = x1) := by
  obtain ⟨its, rv, p, hz⟩ := I.list h
  refine ⟨_, _, _, _, drawsListH (x1 := x1) it a hne nx its.toArray, ⟨⟨st, p.isList⟩, t⟩, by rw [List.size_toArray, rv.length], fun j v hv => ?_, fun j h' z => z.1.1, fun b hb => by simpa using hb⟩
  have hv' : its[j]? = some v := by simpa using hv
  have hj : j < its.length := by
    by_cases q : j < its.length
    · exact q
    · rw [List.getElem?_eq_none (by omega)] at hv'; cases hv'
  obtain ⟨u, hu, ru⟩ := rv.get (List.getElem?_eq_getElem (show j < xs.length by rw [rv.length]; exact hj))
  rw [hv'] at hu
  cases hu
  exact ⟨_, List.getElem?_eq_getElem _, ru⟩
theorem turn_zipH {p : Addr × Obj} {P : Program} {w : World} {K : PySem.W.Frag} {elts : List Expr} {kk : Nat} {tpos : Pos} {la lb : Addr} {z TI TO i1 i2 : Addr} (D : ZApart z TI TO i1 i2)
    (n1 : la ≠ z ∧ la ≠ TO ∧ la ≠ i2 ∧ la ≠ i1) (n2 : lb ≠ z ∧ lb ≠ TO ∧ lb ≠ i1 ∧ lb ≠ i2) :
    TurnX (fun Y => HotK Y p) P w K (.Tuple elts kk tpos) (ItzS K (.lst la) (.lst lb)) [z, TI, TO, i1, i2] z (fun i h => IsZip h z TI TO .none ∧ IsPair h TI (.ref i1) (.ref i2) ∧ (∃ x y, IsPair h TO x y) ∧ h.IsListIter i1 la i ∧ h.IsListIter i2 lb i) where
  mem := by simp
  obj := fun i h st c hc => by
    obtain ⟨hz, hTI, ⟨x, y, hTO⟩, h1, h2⟩ := st
    have e' : c = z ∨ c = TI ∨ c = TO ∨ c = i1 ∨ c = i2 := by simpa using hc
    rcases e' with q | q | q | q | q
    · rw [q]; exact ⟨_, hz, fun v q => nomatch q⟩
    · rw [q]; exact ⟨_, hTI, fun v q => nomatch q⟩
    · rw [q]; exact ⟨_, hTO, fun v q => nomatch q⟩
    · rw [q]; exact Sr.itr_obj (sr := .lst la) h1
    · rw [q]; exact Sr.itr_obj (sr := .lst lb) h2
  keep := fun i h h' st k => by
    obtain ⟨hz, hTI, ⟨x, y, hTO⟩, h1, h2⟩ := st
    exact ⟨k z (by simp) _ hz, k TI (by simp) _ hTI, ⟨x, y, k TO (by simp) _ hTO⟩, Sr.itr_at (sr := .lst la) h1 fun o q => k i1 (by simp) o q, Sr.itr_at (sr := .lst lb) h2 fun o q => k i2 (by simp) o q⟩
  item := by
    intro X hP hw hK hc i pins s σ H E I hf st hg
    subst hP hw hK
    obtain ⟨hz, hTI, ⟨x0, y0, hTO⟩, h1, h2⟩ := st
    obtain ⟨xs, ys, x, y, hqx, hqy, hx, hy⟩ := hg
    have hot : HotAt X.A.in1 p.1 s.heap := hotTo (HotK.at hc I) rfl fun o g => g
    have ne : ∀ b ∈ [z, TI, TO, i1, i2], p.1 ≠ b := fun b hb => HotK.ne hc (hf b hb)
    obtain ⟨fp1, m1, P1, S1, d1, s1, e1, g1, j1, k1⟩ := drawH I hot (ne i1 (by simp)) n1.2.2.2 hqx h1
    obtain ⟨fp2, m2, P2, S2, d2, s2, e2, g2, j2, k2⟩ := drawH I hot (ne i2 (by simp)) n2.2.2.2 hqy h2
    have lx : i < xs.length := by
      by_cases q : i < xs.length
      · exact q
      · rw [List.getElem?_eq_none (by omega)] at hx; cases hx
    have ly : i < ys.length := by
      by_cases q : i < ys.length
      · exact q
      · rw [List.getElem?_eq_none (by omega)] at hy; cases hy
    have f1 : z ∉ fp1 ∧ TO ∉ fp1 ∧ i2 ∉ fp1 := ⟨fun q => or3 (k1 _ q) (fun r => D.i1z r.symm) (fun r => n1.1 r.symm) (fun r => ne z (by simp) r.symm), fun q => or3 (k1 _ q) (fun r => D.TOi1 r) (fun r => n1.2.1 r.symm) (fun r => ne TO (by simp) r.symm), fun q => or3 (k1 _ q) (fun r => D.i12 r.symm) (fun r => n1.2.2.1 r.symm) (fun r => ne i2 (by simp) r.symm)⟩
    have f2 : z ∉ fp2 ∧ TO ∉ fp2 ∧ i1 ∉ fp2 := ⟨fun q => or3 (k2 _ q) (fun r => D.i2z r.symm) (fun r => n2.1 r.symm) (fun r => ne z (by simp) r.symm), fun q => or3 (k2 _ q) (fun r => D.TOi2 r) (fun r => n2.2.1 r.symm) (fun r => ne TO (by simp) r.symm), fun q => or3 (k2 _ q) (fun r => D.i12 r) (fun r => n2.2.2.1 r.symm) (fun r => ne i1 (by simp) r.symm)⟩
    have hzl : z < s.heap.objs.size := Heap.lt_size hz
    refine pyNext_zipD_item D d1 d2 f1 f2 hz hTI hTO s1 s2 (by omega) (by omega) fun u u2 h' tk p1 p2 z' TO' h1' h2' hT hsz hk => ?_
    obtain ⟨x', hx', ru⟩ := g1 _ _ p1
    obtain ⟨y', hy', ru2⟩ := g2 _ _ p2
    rw [hx] at hx'
    cases hx'
    rw [hy] at hy'
    cases hy'
    refine ⟨_, rfl, wpAny_letOwnedTupleGo_zip (s := { s with heap := h', toks := tk }) z' fun h'' z'' sb' => ?_⟩
    have hT2 : h''.get? s.heap.objs.size = some { cls := .type "tuple", data := .seq #[u, u2] } := (sb'.2 _ (Nat.ne_of_gt hzl)).trans hT
    have new : ObjOk X.prog X.w (upd H s.heap.objs.size (.tup [x, y])) h'' s.heap.objs.size (.tup [x, y]) :=
      ⟨by show 2 ≤ sizeLine; decide, [u, u2], .cons ru (.cons ru2 .nil), ⟨_, hT2, rfl, _, rfl⟩⟩
    have I1 : Inv X pins σ (upd H s.heap.objs.size (.tup [x, y])) { s with heap := h'', toks := tk } :=
      I.turnedNew (t' := tk) (ch := [z, TI, TO, i1, i2]) (fun c o hb q => (sb'.2 c (fun q' => hb (by simp [q']))).trans (hk c o (fun q' => hb (by simp [q'])) (fun q' => hb (by simp [q'])) (fun q' => hb (by simp [q'])) (fun q' => hb (by simp [q'])) q)) hf (Nat.le_refl _) new
    refine ⟨.ref s.heap.objs.size, _, I1, rfl, ⟨_, x, y, rfl, I.hok.fresh (Nat.le_refl _), rfl, fun l hl => by rw [Sr.at_inj (sr := .lst la) I hl hqx]; exact hx, fun l hl => by rw [Sr.at_inj (sr := .lst lb) I hl hqy]; exact hy⟩, ⟨z'', ?_, ⟨u, u2, ?_⟩, ?_, ?_⟩, fun c hcm => ?_⟩
    · exact (sb'.2 _ D.TIz).trans (hk _ _ D.TIz D.TITO D.TIi1 D.TIi2 hTI)
    · exact (sb'.2 _ D.TOz).trans TO'
    · exact Sr.itr_at (sr := .lst la) (j1 _ _ h1') fun o q => (sb'.2 _ D.i1z).trans q
    · exact Sr.itr_at (sr := .lst lb) (j2 _ _ h2') fun o q => (sb'.2 _ D.i2z).trans q
    · have hlt : c < s.heap.objs.size := by
        have e' : c = z ∨ c = TI ∨ c = TO ∨ c = i1 ∨ c = i2 := by simpa using hcm
        rcases e' with q | q | q | q | q
        · rw [q]; exact hzl
        · rw [q]; exact Heap.lt_size hTI
        · rw [q]; exact Heap.lt_size hTO
        · rw [q]; obtain ⟨_, e1, _⟩ := Sr.itr_obj (sr := .lst la) h1; exact Heap.lt_size e1
        · rw [q]; obtain ⟨_, e2, _⟩ := Sr.itr_obj (sr := .lst lb) h2; exact Heap.lt_size e2
      rw [upd_ne (Nat.ne_of_lt hlt)]
      exact (hf c hcm).1
  done := by
    intro X hP hw hK hc i pins s σ H E I hf st hg
    subst hP hw hK
    obtain ⟨hz, hTI, ⟨x0, y0, hTO⟩, h1, h2⟩ := st
    obtain ⟨xs, ys, hqx, hqy, hend⟩ := hg
    have hot : HotAt X.A.in1 p.1 s.heap := hotTo (HotK.at hc I) rfl fun o g => g
    have ne : ∀ b ∈ [z, TI, TO, i1, i2], p.1 ≠ b := fun b hb => HotK.ne hc (hf b hb)
    obtain ⟨fp1, m1, P1, S1, d1, s1, e1, g1, j1, k1⟩ := drawH I hot (ne i1 (by simp)) n1.2.2.2 hqx h1
    obtain ⟨fp2, m2, P2, S2, d2, s2, e2, g2, j2, k2⟩ := drawH I hot (ne i2 (by simp)) n2.2.2.2 hqy h2
    have f1 : z ∉ fp1 ∧ TO ∉ fp1 ∧ i2 ∉ fp1 := ⟨fun q => or3 (k1 _ q) (fun r => D.i1z r.symm) (fun r => n1.1 r.symm) (fun r => ne z (by simp) r.symm), fun q => or3 (k1 _ q) (fun r => D.TOi1 r) (fun r => n1.2.1 r.symm) (fun r => ne TO (by simp) r.symm), fun q => or3 (k1 _ q) (fun r => D.i12 r.symm) (fun r => n1.2.2.1 r.symm) (fun r => ne i2 (by simp) r.symm)⟩
    have f2 : z ∉ fp2 ∧ TO ∉ fp2 ∧ i1 ∉ fp2 := ⟨fun q => or3 (k2 _ q) (fun r => D.i2z r.symm) (fun r => n2.1 r.symm) (fun r => ne z (by simp) r.symm), fun q => or3 (k2 _ q) (fun r => D.TOi2 r) (fun r => n2.2.1 r.symm) (fun r => ne TO (by simp) r.symm), fun q => or3 (k2 _ q) (fun r => D.i12 r) (fun r => n2.2.2.1 r.symm) (fun r => ne i1 (by simp) r.symm)⟩
    exact pyNext_zipD_end D d1 d2 f1 f2 hz hTI hTO s1 s2 (by omega) fun h' tk hk => ⟨rfl, I.turnedL (t' := tk) (ch := [z, TI, TO, i1, i2]) (fun c o hb q =>
      hk c o (fun q' => hb (by simp [q'])) (fun q' => hb (by simp [q'])) (fun q' => hb (by simp [q'])) (fun q' => hb (by simp [q'])) q) hf⟩
  self := fun A i s Q E st h => wpAny_pyIter_zip st.1 h
def iZipL (K : PySem.W.Frag) (ta : TA) : TI := fun σ H R => ta σ H fun vs H1 => ∃ la lb xs ys, vs = [.ref la, .ref lb] ∧ SqL K H1 la xs ∧ SqL K H1 lb ys ∧ R (ItzS K (.lst la) (.lst lb)) H1
theorem pi_zipH {p : Addr × Obj} {X : Cx} {e e2 : Expr} {ta : TA} {pp pos tpos : Pos} {elts : List Expr} {kk : Nat} (hg : Gl X "zip") (hm : X.mg "zip" = none) (ha : PA X [e, e2] ta)
    (hs : starEach [e, e2] X.env = (false, eval e X.env) :: starEach [e2] X.env := by rfl) (hpl : (backTo pos (starEach [e2] X.env)).any (·.1) = false := by rfl) :
    PIX (fun Y => HotK Y p) X (.Tuple elts kk tpos) (.Call (.Name "zip" pp) [e, e2] [] pos) (iZipL X.K ta) := by
  refine ⟨fun pins s σ H R I h => ?_⟩
  refine Call_ (ld_blt I hg hm PyProof.Rows.boot_zip (PyProof.Rows.callWith_type1 (thn (ha.run pos pins s σ H _ I h) fun us s1 ⟨vs, H1, I1, r1, q1⟩ => ?_) hs hpl))
  obtain ⟨la, lb, xs, ys, ex, hqx, hqy, q⟩ := q1
  subst ex
  cases r1 with
  | @cons _ u1 _ _ r rr =>
    cases rr with
    | @cons _ u2 _ _ r' rr =>
      cases rr
      obtain ⟨o1, f1, i1, st1, l1⟩ := Sr.start (sr := .lst la) I1 hqx r
      obtain ⟨o2, f2, i2, st2, l2⟩ := Sr.start (sr := .lst lb) I1 hqy r'
      have fresh5 : ∀ c, c ∈ [s1.heap.objs.size + 4, s1.heap.objs.size + 2, s1.heap.objs.size + 3, s1.heap.objs.size, s1.heap.objs.size + 1] → FpOk X pins H1 c := fun c hcm => by
        have e' : c = s1.heap.objs.size + 4 ∨ c = s1.heap.objs.size + 2 ∨ c = s1.heap.objs.size + 3 ∨ c = s1.heap.objs.size ∨ c = s1.heap.objs.size + 1 := by simpa using hcm
        have hle : s1.heap.objs.size ≤ c := by
          rcases e' with z | z | z | z | z <;> rw [z] <;> first | exact Nat.le_refl _ | exact Nat.le_add_right _ _
        exact I1.fpOk hle (I1.hok.fresh hle)
      refine call_zipS f1 f2 (i1 _ fun _ _ e => e) (i2 _ fun c ob e => Heap.get?_push_of_some _ e) fun h' hz hTI hTO h1 h2 hsz hk => wpAny_pyIter_zip hz ?_
      have I2 : Inv X pins σ H1 { s1 with heap := h' } := I1.kept (t' := s1.toks) hk
      have ap : ZApart (s1.heap.objs.size + 4) (s1.heap.objs.size + 2) (s1.heap.objs.size + 3) s1.heap.objs.size (s1.heap.objs.size + 1) := by
        constructor <;> (intro z; simp at z)
      have b1 := l1 la rfl
      have b2 := l2 lb rfl
      have up : ∀ {b k : Nat}, b < s1.heap.objs.size → b ≠ s1.heap.objs.size + k := fun hb => Nat.ne_of_lt (Nat.lt_of_lt_of_le hb (Nat.le_add_right _ _))
      exact ⟨s1.heap.objs.size + 4, [s1.heap.objs.size + 4, s1.heap.objs.size + 2, s1.heap.objs.size + 3, s1.heap.objs.size, s1.heap.objs.size + 1], _, _, H1, rfl, I2,
        turn_zipH ap ⟨up b1, up b1, up b1, Nat.ne_of_lt b1⟩ ⟨up b2, up b2, Nat.ne_of_lt b2, up b2⟩, ⟨hz, hTI, ⟨_, _, hTO⟩, st1 _ _ h1, st2 _ _ h2⟩, fresh5, q⟩
theorem pg_tupH {p : Addr × Obj} {X : Cx} {es : List Expr} {k : Nat} {t : TGs} {n : Nat} {pos : Pos} (hk : HotK X p) (h : PGs X es t)
    (hn : (assignEach es X.env).length = n := by rfl) (hst : (assignEach es X.env).findIdx? (·.1) = none := by rfl) : PG X (.Tuple es k pos) (gTup X.K n t) := by
  refine ⟨fun pins s σ H v u Q I r hw => ?_⟩
  obtain ⟨a, xs, e1, hq, hl, hw⟩ := hw
  subst e1
  cases r
  obtain ⟨its, rv, ht, hz⟩ := I.tuple hq
  refine assign_tupH (hk.at I) ht (by simp [hn, ← hl, rv.length]) hst fun h' hx => ?_
  have I1 : Inv X pins σ H { s with heap := h' } := I.kept (t' := s.toks) fun b o e => hx b o (Nat.ne_of_lt (Heap.lt_size e)) e
  exact h.run pins _ σ H xs _ Q I1 (by simpa using rv) hw
theorem tg_tupH {p : Addr × Obj} {X : Cx} {es : List Expr} {pos : Pos} {is : List Nat} {k n : Nat} (hk : HotK X p) (h : STgs X es is is) (hl : is.length = n := by rfl) (hn : (assignEach es X.env).length = n := by rfl) (hst : (assignEach es X.env).findIdx? (·.1) = none := by rfl) : STg X (.Tuple es k pos) is (tT is) := by
  refine ⟨pg_weak (pg_tupH hk h.pg hn hst) fun v σ H Q ⟨G, ι, ρ, m, x, g, ev, r, q⟩ => ?_⟩
  have key : ∃ xs, x = .d (.tup xs) := by
    match x, q with
    | .d (.tup xs), _ => exact ⟨xs, rfl⟩
  obtain ⟨xs, rfl⟩ := key
  cases r with
  | tup hs r =>
    have q' : match setAll is xs ρ with
      | some ρ' => ∀ σ', EnvR X.kx G ι ρ' σ' → OffEq is σ σ' → Q σ' H
      | none => False := q
    refine ⟨_, _, rfl, g.sub.sqt hs, ?_, ⟨G, ι, ρ, m, xs, g, ev, r, q'⟩⟩
    rw [r.length, ← hl]
    cases hs : setAll is xs ρ with
    | none => rw [hs] at q'; exact q'.elim
    | some ρ' => exact setAll_len hs
theorem zipL_of {X : Cx} {W : XK} {a b : Expr} {fa fb : SE} {σ : L2.St} {H : Hp} {R : It → Hp → Prop} (h : tI X W (iZipLL fa fb) σ H R) : iZipL X.K (tCons (tE X W fa) (tCons (tE X W fb) tNil)) σ H R := by
  obtain ⟨G, ι, ρ, m, g, ev, p⟩ := h
  have p' : PostG X (fun G _ J xs => WalkD X.kx G J xs) W G ι H ((fa ρ m).bind fun x m => (fb ρ m).bind fun y m => match x, y with
    | .d (.lst xs), .d (.lst ys) => .ok ((xs.zip ys).map fun p => .tup [p.1, p.2]) m
    | _, _ => .no) R := p
  refine tE_mono (step_e g ev p') fun v H1 ⟨G1, ι1, m1, x, x1, g1, ev1, r1, _, p1⟩ => ?_
  refine tE_mono (step_e g1 ev1 p1) fun u H2 ⟨G2, ι2, m2, y, x2, g2, ev2, r2, _, p2⟩ => ?_
  have r1 := r1.ext x2
  have key : ∃ xs ys, x = .d (.lst xs) ∧ y = .d (.lst ys) := by
    match x, y, p2 with
    | .d (.lst xs), .d (.lst ys), _ => exact ⟨xs, ys, rfl, rfl⟩
  obtain ⟨xs, ys, rfl, rfl⟩ := key
  cases r1 with
  | lst h1 q1 =>
    cases r2 with
    | lst h2 q2 => exact ⟨_, _, _, _, rfl, g2.sub.sql h1, g2.sub.sql h2, p2 _ G2 ι2 H2 (Ext.refl ..) g2 (walkD_zip (sa := .lst _) (sb := .lst _) h1 h2 q1 q2)⟩
/-- [word for word, good in zip(words, matching) if good] -/
theorem ne_lcH {p : Addr × Obj} {X : Cx} {W : XK} {elt tg a b : Expr} {ifs : List Expr} {scope : Scope} {own : List (Str × Nat)} {pos zp zpos tpos : Pos} {elts : List Expr} {kk : Nat} {fa fb ts fe : SE} {tgt : Tg} (hk : HotK X p) (hN : X.N.Nodup) (hm : X.mg "zip" = none) (h : SEx X W a fa) (h' : SEx X W b fb) (ok : BlkOk X.N X.env.scope scope own)
    (hg : ∀ (s : Shared) (H : Hp) (c : Addr) (cl : List (Str × Addr)) (fp : List Addr), HotK (X.blk s H scope (compEnvC scope cl c X.env) fp) p → STg (X.blk s H scope (compEnvC scope cl c X.env) fp) (.Tuple elts kk tpos) (own.map (·.2)) tgt) (ht : ∀ (s : Shared) (H : Hp) (c : Addr) (cl : List (Str × Addr)) (fp : List Addr), STs (X.blk s H scope (compEnvC scope cl c X.env) fp) ifs ts)
    (he : ∀ (s : Shared) (H : Hp) (c : Addr) (cl : List (Str × Addr)) (fp : List Addr), SEx (X.blk s H scope (compEnvC scope cl c X.env) fp) W0 elt fe) (hgz : Gl X "zip" := by rfl) (hs : ∀ x, foldedSetIterable (.Call (.Name "zip" zp) [a, b] [] zpos) X.env x = pure x := by intro _; rfl)
    (hs1 : starEach [a, b] X.env = (false, eval a X.env) :: starEach [b] X.env := by rfl) (hs2 : starEach [b] X.env = [(false, eval b X.env)] := by rfl) (hpl : (backTo zpos (starEach [b] X.env)).any (·.1) = false := by rfl) :
    NEx X W (.ListComp elt [⟨.Tuple elts kk tpos, .Call (.Name "zip" zp) [a, b] [] zpos, ifs, 0⟩] scope pos) (nLc (own.map (·.2)) (iZipLL fa fb) tgt ts fe) := by
  have hi : PIX (fun Y => HotK Y p) X (.Tuple elts kk tpos) (.Call (.Name "zip" zp) [a, b] [] zpos) (iZipL X.K (tCons (tE X W fa) (tCons (tE X W fb) tNil))) := pi_zipH hgz hm (pa_cons h.pe (pa_cons h'.pe pa_nil hs2) hs1) hs1 hpl
  refine ⟨pe_weak (pe_lcX (C := fun Y => HotK Y p) (g := tG X (List.map (fun (x : Str × Nat) => x.2) own) tgt) (tt := tTe X W0 ts) (te := tE X W0 fe) hk (fun _ z => z) hN hi ok (fun s H C cl fp z => (hg s H C cl fp z).pg) (fun s H C cl fp => (ht s H C cl fp).pt) (fun s H C cl fp => (he s H C cl fp).pe) hs) fun σ H Q q => ?_⟩
  have q' := ne_lc (ts := ts) (fe := fe) q
  exact zipL_of (a := a) (b := b) q'
/-- name = [..], in one row -/
theorem ss_asgLcH {p : Addr × Obj} {X : Cx} {W : XK} {elt a b : Expr} {ifs : List Expr} {scope : Scope} {own : List (Str × Nat)} {pos zp zpos tpos py spos : Pos} {elts : List Expr} {kk i : Nat} {y : Str} {fa fb ts fe : SE} {tgt : Tg} (hk : HotK X p) (hN : X.N.Nodup) (hm : X.mg "zip" = none) (h : SEx X W a fa) (h' : SEx X W b fb) (ok : BlkOk X.N X.env.scope scope own)
    (hg : ∀ (s : Shared) (H : Hp) (c : Addr) (cl : List (Str × Addr)) (fp : List Addr), HotK (X.blk s H scope (compEnvC scope cl c X.env) fp) p → STg (X.blk s H scope (compEnvC scope cl c X.env) fp) (.Tuple elts kk tpos) (own.map (·.2)) tgt) (ht : ∀ (s : Shared) (H : Hp) (c : Addr) (cl : List (Str × Addr)) (fp : List Addr), STs (X.blk s H scope (compEnvC scope cl c X.env) fp) ifs ts)
    (he : ∀ (s : Shared) (H : Hp) (c : Addr) (cl : List (Str × Addr)) (fp : List Addr), SEx (X.blk s H scope (compEnvC scope cl c X.env) fp) W0 elt fe) (hsw : swapsWith (.ListComp elt [⟨.Tuple elts kk tpos, .Call (.Name "zip" zp) [a, b] [] zpos, ifs, 0⟩] scope pos) (some (.Name y py)) spos.line X.env = pure true) (hyl : X.env.scope.names.lookup y = some .local := by rfl) (hy : X.N[i]? = some y := by rfl)
    (hgz : Gl X "zip" := by rfl) (hs : ∀ x, foldedSetIterable (.Call (.Name "zip" zp) [a, b] [] zpos) X.env x = pure x := by intro _; rfl)
    (hs1 : starEach [a, b] X.env = (false, eval a X.env) :: starEach [b] X.env := by rfl) (hs2 : starEach [b] X.env = [(false, eval b X.env)] := by rfl) (hpl : (backTo zpos (starEach [b] X.env)).any (·.1) = false := by rfl) :
    SSt X W (.Assign [.Name y py] (.ListComp elt [⟨.Tuple elts kk tpos, .Call (.Name "zip" zp) [a, b] [] zpos, ifs, 0⟩] scope pos) spos) (sAsg (tN i) (eFz (nLc (own.map (·.2)) (iZipLL fa fb) tgt ts fe))) := by
  have hi : PIX (fun Y => HotK Y p) X (.Tuple elts kk tpos) (.Call (.Name "zip" zp) [a, b] [] zpos) (iZipL X.K (tCons (tE X W fa) (tCons (tE X W fb) tNil))) := pi_zipH hgz hm (pa_cons h.pe (pa_cons h'.pe pa_nil hs2) hs1) hs1 hpl
  refine ⟨ps_weak (ps_setLcX (C := fun Y => HotK Y p) (g := tG X (List.map (fun (x : Str × Nat) => x.2) own) tgt) (tt := tTe X W0 ts) (te := tE X W0 fe) hk (fun _ z => z) hN hy hyl hsw hi ok (fun s H C cl fp z => (hg s H C cl fp z).pg) (fun s H C cl fp => (ht s H C cl fp).pt) (fun s H C cl fp => (he s H C cl fp).pe) hs) fun D σ H ⟨G, ι, ρ, m, g, ev, q⟩ => ?_⟩
  have hx : tLc (tI X W (iZipLL fa fb)) (tG X (List.map (fun (x : Str × Nat) => x.2) own) tgt) (tTe X W0 ts) (tE X W0 fe) (own.map (·.2)) σ H (fun x H1 => gName i x σ H1 D.nx) := by
    refine ne_lc (W := W) (fe := fe) (ts := ts) ⟨G, ι, ρ, m, g, ev, ?_⟩
    unfold sAsg eFz at q
    cases hr : nLc (own.map (·.2)) (iZipLL fa fb) tgt ts fe ρ m with
    | no => rw [hr] at q; exact q
    | ex e m1 => rw [hr] at q; exact q
    | ok xs m1 =>
      rw [hr] at q
      intro l vs G' ι' H' e g' hq r
      obtain ⟨g2, e2⟩ := g'.lay hq (.lst vs)
      have q2 : PostS X W D G ι H (.nx (ρ.set i (some (.d (.lst xs)))) m1) := q
      exact q2 _ _ _ _ (e.trans e2) g2 (((ev.ext e).ext e2).set (x := .d (.lst xs)) (.lst (SqL.of upd_same) (RepAll.mono e2.sub r)) i)
  exact zipL_of (a := a) (b := b) hx
end DI
namespace DI
open PySem PySem.Spec PyProof.Rows L2
/-! ### exceptions: made and raised -/

/-- an own exception class without an own __init__, over ValueError -/
structure ExcF (K : Kx) (c : String) (C : Addr) : Prop where
  g : K.mg (Str.ofString c) = some (.ref C)
  q : PySem.W.excIn K.K C [.type "ValueError", .type "Exception", .type "BaseException", .type "object"] "ValueError.__new__" = true
  k : PySem.W.keepIn K.K (.ref C) = true
  s : PySem.W.subIn K.K (.ref C) (.type "BaseException") = some true
  t : PySem.W.typeIn K.K (.ref C) = some (.type "type")
section
variable {X : Cx} {W : XK} {c : String} {C : Addr} {p p2 pos pos' : Pos} {j : Nat} {x y : Str}
theorem ss_raise (c : String) (E : ExcF X.kx c C) (hc : X.calm = true) (tk : Tk X W) (hx : x = Str.ofString c := by rfl) (hg : Gl X x := by rfl) (hd : (x == ("__debug__" : Str)) = false := by decide +kernel) :
    SSt X W (.Raise (some (.Call (.Name x p) [.Constant (.str y) j p2] [] pos)) none pos') (sRaise ⟨c, none⟩) := by
  subst hx
  refine ⟨ps_weak (L2N.ps_raise hc tk (L2N.pmk_own PySem.F.excBase_ValueError E.q E.g E.k (raises_own E.s E.t) hg hd)) fun D σ H ⟨G, ι, ρ, m, g, ev, q⟩ => ?_⟩
  exact q (.ref C) none G ι H (Ext.refl ..) g ⟨C, E.g, rfl, rfl⟩
end
/-! ### isinstance of the exception that is handled -/
/-- the name x in such a question, and the answer -/
inductive IsF (K : Kx) (D : Addr) (x : Str) (b : Bool) : Prop
  | own (C : Addr) (h : K.mg x = some (.ref C)) (e : PySem.W.kitOne K.K (.ref D) (.ref C) = some b)
  | ty (T : String) (h : K.mg x = none) (hv : bootBuiltins x = some (.type T)) (hn : x ≠ "__name__") (e : PySem.W.kitOne K.K (.ref D) (.type T) = some b)
section
variable {X : Cx} {W : XK} {p : Addr × Obj} {D : Addr} {pos q1 q2 q3 : Pos} {x y : Str} {b : Bool}
theorem call_isH {cv : Value} (hk : HotK X p) (C : L2.ExcC X.K D) (hz : L2.Zc (.ref D) none p.2) (e : PySem.W.kitOne X.K (.ref D) cv = some b) : CallR X (.builtin "isinstance") (fun xs H Q => ∃ c, xs = [.ref p.1, c] ∧ (∀ u, RelV c u → u = cv) ∧ Q (.bl b) H) := by
  intro pins s σ H xs us Q I r h
  obtain ⟨c, rfl, hcv, q⟩ := h
  cases r with
  | cons rx rr =>
    cases rr with
    | cons rt rr =>
      cases rr
      cases rx
      have ec := hcv _ rt
      subst ec
      have hget := (hk.there I).1
      obtain ⟨_, vs, hv, _⟩ := hk.1
      have J : PySem.W.InstAt s.heap p.1 p.2 D none := by
        obtain ⟨a, oe⟩ := p
        obtain ⟨oc, od, oda, osl⟩ := oe
        obtain ⟨h1, h2⟩ := hz
        dsimp only at h1 h2 hv
        subst h1 h2 hv
        exact ⟨hget, rfl, rfl, trivial⟩
      exact PySem.W.kia_one (PySem.W.handS_kitx_exc C.hg C.hk C.hs C.hd C.ha C.hn C.ht C.hm) I.kIn J e (fun z => nomatch z) fun tk => ⟨.bl b, H, I.kept (t' := tk) fun _ _ z => z, rfl, q⟩
theorem se_isE (hk : HotK X p) (C : L2.ExcC X.K D) (hz : L2.Zc (.ref D) none p.2) (hm : X.mg "isinstance" = none) (F : IsF X.kx D x b) (hy : X.N[0]? = some y := by rfl) (hv : Vis X.env.scope y := by first | exact .inl rfl | exact .inr (.inl rfl) | exact .inr (.inr rfl)) (hgx : Gl X x := by rfl) (hg : Gl X "isinstance" := by rfl)
    (hdx : (x == ("__debug__" : Str)) = false := by decide +kernel) (hdy : (y == ("__debug__" : Str)) = false := by decide +kernel) (hcy : (y == ("__classdict__" : Str)) = false := by decide +kernel)
    (he : starEach (.Name y q2 :: [.Name x q3]) X.env = (false, eval (.Name y q2) X.env) :: starEach [.Name x q3] X.env := by rfl) (he2 : starEach [.Name x q3] X.env = [(false, eval (.Name x q3) X.env)] := by rfl) (hpl : (backTo pos (starEach [.Name x q3] X.env)).any (·.1) = false := by rfl) :
    SEx X W (.Call (.Name "isinstance" q1) [.Name y q2, .Name x q3] [] pos) (eIsE p.1 b) := by
  have key : ∃ (cv : Value) (c : V), PE X (.Name x q3) (tC c) ∧ (∀ u, RelV c u → u = cv) ∧ PySem.W.kitOne X.K (.ref D) cv = some b := by
    cases F with
    | own C h e => exact ⟨.ref C, .ref C, pe_glob hgx h rfl hdx, fun u r => r, e⟩
    | ty T h hv hn e => exact ⟨.type T, .ty T, pe_bltn hgx h hv (rfl : RelV (.ty T) (.type T)) hn hdx, fun u r => r, e⟩
  obtain ⟨cv, c, pT, hc, e⟩ := key
  refine ⟨pe_weak (pe_callB (call_isH hk C hz e) hg hm (by decide +kernel) (pa_cons (pe_var (i := 0) hy hv hdy hcy) (pa_cons pT pa_nil he2) he) (by decide +kernel) (by decide +kernel) he hpl) fun σ H Q ⟨G, ι, ρ, m, g, ev, q⟩ => ?_⟩
  have q' : PostE X W G ι H (eIsE p.1 b ρ m) Q := q
  unfold eIsE at q'
  split at q'
  · rename_i a hr
    split at q'
    · rename_i ha
      obtain ⟨v, h1, h2⟩ := ev.2 0 _ hr
      have h2 : v = .ref a := h2
      subst h2 ha
      exact ⟨_, h1, c, rfl, hc, q' (.bl b) G ι H (Ext.refl ..) g (.bl b)⟩
    · exact q'.elim
  · exact q'.elim
end
end DI
namespace DI
open PySem PySem.Spec PyProof.Rows L2
open LamX (CodeO TabB LamS lamEnv lamCx inv_table among_app lam_start2)
theorem io_apart {q : Addr} : ∀ (L : Io) (i j : Nat) (l l' : List Addr), L.flatten.Nodup → L[i]? = some l → L[j]? = some l' → j ≠ i → q ∈ l → q ∈ l' → False := by
  intro L
  induction L with
  | nil => intro i j l l' _ h; simp at h
  | cons x L ih =>
    intro i j l l' nd hi hj hne h1 h2
    rw [List.flatten_cons, List.nodup_append] at nd
    cases i with
    | zero =>
      cases j with
      | zero => exact hne rfl
      | succ j =>
        simp at hi hj
        subst hi
        exact nd.2.2 q h1 q (mem_io hj h2) rfl
    | succ i =>
      cases j with
      | zero =>
        simp at hi hj
        subst hj
        exact nd.2.2 q h2 q (mem_io hi h1) rfl
      | succ j =>
        simp at hi hj
        exact ih i j l l' nd.2.1 hi hj (fun e => hne (by rw [e])) h1 h2
section
variable {X : Cx} {pins : List (Addr × Obj)} {σ : L2.St} {G H : Hp} {ι : Io} {m : Mem} {s : Shared}
/-- the table is written, a code object is laid -/
theorem GR.code {K : Kx} (g : GR K G ι m H) {i : Nat} {P : Addr} {q : String} (hi : m[i]? = some (.tab P q)) :
    ι[i]? = some [P] ∧ G P = none ∧ ∃ ps, H P = some (.tbl ps) ∧ TriplesOk ps.toList ∧ (∀ (pos : Pos) (cv : Value), codeAmong pos ps.toList = some cv → ∃ c, cv = .ref c ∧ G c = some (CodeO c (Str.ofString q))) ∧
      ∀ (c' : Addr) (pos : Pos) , H c' = none → GR K (upd G c' (CodeO c' (Str.ofString q))) ι m (upd (upd H P (.tbl (ps ++ #[rawInt pos.line, rawInt pos.col, .ref c']))) c' (CodeO c' (Str.ofString q))) ∧
        Ext G ι H (upd G c' (CodeO c' (Str.ofString q))) ι (upd (upd H P (.tbl (ps ++ #[rawInt pos.line, rawInt pos.col, .ref c']))) c' (CodeO c' (Str.ofString q))) := by
  have hlt : i < ι.length := by rw [g.len]; exact (List.getElem?_eq_some_iff.mp hi).1
  have hl : ι[i]? = some ι[i] := List.getElem?_eq_getElem hlt
  obtain ⟨ps, el, hG, hP, ht, ha⟩ := g.obj i _ _ hl hi
  rw [el] at hl
  refine ⟨hl, hG, ps, hP, ht, ha, fun c' pos hc => ?_⟩
  obtain ⟨g1, g2⟩ := g.fresh hc
  have nPc : P ≠ c' := ne_of_none hP hc
  have mP : P ∈ ι.flatten := mem_io hl (by simp)
  have at_ : ∀ b, b ≠ P → b ≠ c' → upd (upd H P (.tbl (ps ++ #[rawInt pos.line, rawInt pos.col, .ref c']))) c' (CodeO c' (Str.ofString q)) b = H b := fun b h1 h2 => by rw [upd_ne h2, upd_ne h1]
  have x : Ext G ι H (upd G c' (CodeO c' (Str.ofString q))) ι (upd (upd H P (.tbl (ps ++ #[rawInt pos.line, rawInt pos.col, .ref c']))) c' (CodeO c' (Str.ofString q))) := by
    refine ⟨sub_upd g1, ⟨[], by simp, by simp⟩, fun a o e n => ?_, fun a e => ?_, fun a o e => ?_⟩
    · rw [at_ a (fun z => n (z ▸ mP)) (ne_of_none e hc)]; exact e
    · by_cases z : a = c'
      · subst z; exact hc
      · by_cases z2 : a = P
        · subst z2; rw [upd_ne nPc, upd_same] at e; cases e
        · rw [at_ a z2 z] at e; exact e
    · by_cases z : a = c'
      · subst z; exact .inr (.inl hc)
      · rw [upd_ne z] at e; exact .inl e
  refine ⟨⟨fun a o e => ?_, g.len, g.nd, fun j l o hj ho => ?_⟩, x⟩
  · by_cases z : a = c'
    · subst z; rw [upd_same] at e ⊢; exact e
    · rw [upd_ne z] at e
      rw [at_ a (fun z2 => by rw [z2, hG] at e; cases e) z]
      exact g.sub _ _ e
  · by_cases hji : j = i
    · subst hji
      rw [hl] at hj; cases hj
      rw [hi] at ho; cases ho
      refine ⟨_, rfl, by rw [upd_ne nPc]; exact hG, by rw [upd_ne nPc, upd_same], ?_, fun p' cv hcv => ?_⟩
      · simp only [Array.toList_append]; exact PySem.TriplesOk_snoc _ _ _ _ ht
      · simp only [Array.toList_append] at hcv
        rcases among_app _ ht hcv with z | z
        · obtain ⟨c0, e1, e2⟩ := ha p' cv z
          exact ⟨c0, e1, x.sub _ _ e2⟩
        · exact ⟨c', z, upd_same⟩
    · refine (g.obj j l o hj ho).mono x.sub fun a hal => ?_
      have n1 : a ≠ c' := fun z => g2 (z ▸ mem_io hj hal)
      have n2 : a ≠ P := fun z => io_apart ι i j _ l g.nd hl hj hji (by simp) (z ▸ hal)
      exact ⟨fun e => by rw [upd_ne n1]; exact e, at_ a n2 n1⟩
/-- the lambda is made: its code object is new, or found in the table -/
theorem lam_mk {c P : Addr} {q : String} {params : Arguments} {body : Expr} {scope : Scope} {pos : Pos} {E : Value → Shared → Prop} {Q : Value → Shared → Prop} (I : Inv X pins σ H s) (g : GR X.kx G ι m H) (hm0 : m[0]? = some (.tab P q)) (TB : TabB X.base X.mg c P) (hcode : X.env.code = .ref c)
    (hq : X.env.qual ++ "<lambda>" = Str.ofString q) (hdef : defaultsOf params X.env = ([], [])) (hfree : ∀ y ∈ scope.names, y.2 = .free → ∃ c, X.env.cells.lookup y.1 = some c)
    (h : ∀ (f c' : Addr) (pm ctv : Value) (G1 H1 : Hp) (s' : Shared), Inv X pins σ H1 s' → Ext G ι H G1 ι H1 → GR X.kx G1 ι m H1 →
      s'.heap.get? f = some (PySem.W.kla_obj "<lambda>" (X.env.qual ++ "<lambda>") params body scope (cloFrom X.env.cells scope.names []) pm c' ctv) → H1 f = none → f ∉ frs X.stack → G1 c' = some (CodeO c' (X.env.qual ++ "<lambda>")) → Q (.ref f) s') :
    wpAny (model X.prog X.w) X.A (eval (.Lambda params body scope pos) X.env) Q E s := by
  obtain ⟨hi, hG, ps, hP, ht, ha, new⟩ := g.code hm0
  rw [← hq] at ha new
  refine PySem.W.kla_eval hdef ?_
  have bP : s.heap.BuiltinsAt X.mg P := TB.bm.keeps I.bk
  have hP' : s.heap.get? P = some { cls := .none, data := .fields ps } := I.hok P _ hP
  have nofr : ∀ f, s.heap.objs.size ≤ f → f ∉ frs X.stack := fun f hf z => by
    rcases List.mem_cons.mp (I.stkSub _ z) with e | e
    · have h1 := I.lt
      rw [← e] at h1
      exact Nat.lt_irrefl _ (Nat.lt_of_lt_of_le h1 hf)
    · exact I.nofs hf e
  cases hc : codeAmong pos ps.toList with
  | none =>
    refine PySem.W.kla_makeFunction (mg := X.mg) (c := c) (P := P) (ps := ps) (closure_ok hfree) I.ok.glob (I.mod.glob.keeps I.bk) hcode (TB.code.keeps I.bk) hP' ht hc TB.gP bP fun c' ctv h' tk hx hge hlt hrec htb => ?_
    obtain ⟨c2, oc, vs, t, e2, hoc, hd, hv⟩ := hrec
    cases e2
    have hsz : s.heap.objs.size ≤ h'.objs.size := Nat.le_trans hge (Nat.le_of_lt hlt)
    have nC : H c' = none := I.hok.fresh hge
    have I1 := inv_table (t' := tk) (more := #[rawInt pos.line, rawInt pos.col, .ref c']) (h' := h'.push (PySem.W.kla_obj "<lambda>" (X.env.qual ++ "<lambda>") params body scope (cloFrom X.env.cells scope.names []) ((X.mg "__name__").getD .none) c' ctv)) I hP
      (fun b o hb e => Heap.get?_push_of_some _ (hx b o hb e)) (Heap.get?_push_of_some _ htb) hge ⟨oc, vs, t, Heap.get?_push_of_some _ hoc, hd, hv⟩
    obtain ⟨g1, x1⟩ := new c' pos nC
    refine h h'.objs.size c' ((X.mg "__name__").getD .none) ctv _ _ _ I1 x1 g1 (Heap.get?_push_size _ rfl) ?_ (nofr _ hsz) upd_same
    have n1 : h'.objs.size ≠ c' := Nat.ne_of_gt hlt
    have n2 : h'.objs.size ≠ P := Nat.ne_of_gt (Nat.lt_of_lt_of_le (Heap.lt_size hP') hsz)
    rw [upd_ne n1, upd_ne n2]
    exact I.hok.fresh hsz
  | some cv =>
    obtain ⟨c', e, hco⟩ := ha pos cv hc
    subst e
    refine PySem.W.kla_makeFunctionHit (mg := X.mg) (c := c) (P := P) (ps := ps) (closure_ok hfree) I.ok.glob (I.mod.glob.keeps I.bk) hcode (TB.code.keeps I.bk) hP' ht hc bP fun ctv h' tk hx hsz => ?_
    have I1 : Inv X pins σ H { s with heap := h'.push (PySem.W.kla_obj "<lambda>" (X.env.qual ++ "<lambda>") params body scope (cloFrom X.env.cells scope.names []) ((X.mg "__name__").getD .none) c' ctv), toks := tk } := I.kept fun b o e => Heap.get?_push_of_some _ (hx b o e)
    exact h h'.objs.size c' ((X.mg "__name__").getD .none) ctv G H _ I1 (Ext.refl ..) g (Heap.get?_push_size _ rfl) (I.hok.fresh hsz) (nofr _ hsz) hco
end
/-- the lambda's context, its exceptions' contexts None -/
abbrev lamXe (X : Cx) (A : Around) (outer : List PySem.Env) (s : Shared) (H : Hp) (E : XK) (scope : Scope) (f c' : Addr) : Value → Shared → Prop := fun e s' => wpAny (model X.prog X.w) (A.deeper (lamEnv X scope s.heap.objs.size f c')) (leaving (lamEnv X scope s.heap.objs.size f c') e)
    (fun _ s'' => L2N.CX X.prog X.w outer H s E e s'') (fun e' s'' => L2N.CX X.prog X.w outer H s E e' s'') s'
abbrev lamCxN (X : Cx) (A : Around) (outer : List PySem.Env) (s : Shared) (H : Hp) (E : XK) (scope : Scope) (f c' : Addr) : Cx := (lamCx X A outer s H E scope f c').tr [] (lamXe X A outer s H E scope f c')
section
variable {X : Cx} {pins : List (Addr × Obj)} {σ : L2.St} {H : Hp} {s : Shared}
theorem lam_tk {A : Around} {outer : List PySem.Env} {s : Shared} {H : Hp} {E : XK} {scope : Scope} {f c' : Addr} : Tk (lamCxN X A outer s H E scope f c') E := L2N.takes_of rfl rfl rfl rfl
/-- a(), in the def that got the lambda: Z is that def's context, entered at s -/
theorem pe_actN {CXg : CXT} {Eg : XK} {Ng : List Str} {qg : Str} {sg : Scope} {g f c' : Addr} {cdg pm ctv : Value} {params : Arguments} {body : Expr} {scope : Scope} {k i : Nat} {a : Str} {pn : List (Addr × Obj)} {xe : Value → Shared → Prop} {W : WX} {tb : XK → TE} {p1 p2 : Pos}
    (I : Inv X pins σ H s) (L : LamS X.env.scope scope) (hf : s.heap.get? f = some (PySem.W.kla_obj "<lambda>" (X.env.qual ++ "<lambda>") params body scope (cloFrom X.env.cells scope.names []) pm c' ctv)) (hfn : H f = none) (hfr : f ∉ frs X.stack)
    (hbind : bindArgs (PySem.W.kla_fn "<lambda>" (X.env.qual ++ "<lambda>") params body scope (cloFrom X.env.cells scope.names []) pm (.ref c') ctv) ⟨[], []⟩ = pure [])
    (tk : L2N.Takes ((cxOf CXg X.prog X.w X.K X.mg X.base Ng qg sg g cdg X.A X.stack s H Eg).tr pn xe) W) (hr : Room (k + 1) (X.A.deeper (envOfC qg sg s.heap.objs.size g cdg)))
    (hbody : ∀ (E : XK) (A : Around) (outer : List PySem.Env) (s : Shared) (H : Hp), Room k (A.deeper (lamEnv X scope s.heap.objs.size f c')) → PE (lamCxN X A outer s H E scope f c') body (tb E))
    (hN : Ng[i]? = some a) (hv : Vis sg a) (hd : (a == ("__debug__" : Str)) = false := by decide) (hcd : (a == ("__classdict__" : Str)) = false := by decide) :
    PE ((cxOf CXg X.prog X.w X.K X.mg X.base Ng qg sg g cdg X.A X.stack s H Eg).tr pn xe) (.Call (.Name a p1) [] [] p2)
      (fun σZ HZ Q => ∃ E : XK, (∀ cls d H', E cls d H' → W cls d σZ H') ∧ σZ[i]? = some (some (.ref f)) ∧ HZ c' = some (CodeO c' (X.env.qual ++ "<lambda>")) ∧ tb E σ HZ Q) := by
  refine ⟨fun pinsZ sZ σZ HZ Q IZ h => ?_⟩
  obtain ⟨E, hW, hs, hc, ht⟩ := h
  refine wpAny_Call_Name_kw (thn ((pe_var (pos := p1) (i := i) hN hv hd hcd).run pinsZ sZ σZ HZ (fun v H1 => v = .ref f ∧ H1 = HZ) IZ ⟨.ref f, hs, rfl, rfl⟩) fun u s1 ⟨v, H1, I1, r1, q1⟩ => ?_)
  obtain ⟨ev, eH⟩ := q1
  subst ev
  rw [eH] at I1
  obtain rfl : u = Value.ref f := r1
  have of1 : s1.heap.get? f = some (PySem.W.kla_obj "<lambda>" (X.env.qual ++ "<lambda>") params body scope (cloFrom X.env.cells scope.names []) pm c' ctv) := I1.base.keep f _ hf hfn hfr (fun z => nomatch (show f ∈ ([] : List Addr) from z))
  refine PySem.W.callWith_F0 ⟨_, _, _, _, of1⟩ ?_
  have un : Un (frs X.stack) [] H HZ s.heap s1.heap := I1.base
  obtain ⟨⟨oc, vs, t, hoc, hdc, hvc⟩, _, _⟩ := I1.hok c' _ hc
  have rc : codeAny (model X.prog X.w) (X.A.deeper (envOfC qg sg s.heap.objs.size g cdg)) (.call (.ref f) ⟨[], []⟩) (CR (L2N.CX X.prog X.w) (envOfC qg sg s.heap.objs.size g cdg :: X.stack) X.prog X.w HZ s1 Q E) s1 := by
    refine PySem.W.kla_callFunE hr.depth of1 rfl L.co L.gen rfl ⟨c', oc, vs, t, rfl, hoc, hdc, hvc⟩ ?_
    rw [hbind]
    refine wpAny_pure (wpAny_newFunctionEnv (fun y hy => (L.own y hy).2) (fun y hy => absurd hy (by simp)) (fun h₁ hns hsb => ⟨I1.nolimit.fresh _ hsb, ?_⟩) L.kind)
    show codeAny _ _ (.expr body (lamEnv X scope s1.heap.objs.size f c')) _ _
    have kp : ∀ b o, s1.heap.get? b = some o → h₁.get? b = some o := fun b o e => hsb.extBut b o (Nat.ne_of_lt (Heap.lt_size e)) (Heap.get?_push_of_some _ e)
    have J0 : Inv (lamCx X (X.A.deeper (envOfC qg sg s.heap.objs.size g cdg)) (envOfC qg sg s.heap.objs.size g cdg :: X.stack) s1 HZ E scope f c') [] σ HZ { s1 with heap := h₁, toks := s1.toks + ([] : List (Str × Value)).length } :=
      lam_start2 I L I1.env0 hr.hd un hns kp
    have J : Inv (lamCxN X (X.A.deeper (envOfC qg sg s.heap.objs.size g cdg)) (envOfC qg sg s.heap.objs.size g cdg :: X.stack) s1 HZ E scope f c') [] σ HZ { s1 with heap := h₁, toks := s1.toks + ([] : List (Str × Value)).length } := J0.toTry _
    refine PySem.W.kla_codeExpr (wpAny_mono ((hbody E _ _ s1 HZ (hr.deeper _)).run [] _ _ HZ Q J ht) (fun v s' hq => ?_) fun e s' hq => hq)
    obtain ⟨w', H', J', rv, q⟩ := hq
    exact ⟨w', H', J'.os, J'.bare, J'.base, J'.hok, rv, q⟩
  refine wpAny_call (codeAny_mono rc fun r s' hq => ?_)
  cases r with
  | error e => 
    obtain ⟨a', B', H', cls, d, e1, fl, hok, ub, na, os, ag, hE⟩ := hq
    exact L2N.passAt tk σZ pinsZ HZ s1 e s' I1 ⟨a', B', H', cls, d, e1, fl, hok, ub, na, os, ag, hW _ _ _ hE⟩
  | ok fl =>
    cases fl with
    | ret u => exact I1.after hq
    | next => exact False.elim hq
    | brk => exact False.elim hq
    | cont => exact False.elim hq
end
end DI
namespace DI
open PySem PySem.Spec PyProof.Rows L2
open LamX (CodeO TabB LamS lamEnv lamCx)
/-- what the body of a def called while an exception is handled gives -/
structure CxH (X : Cx) (W : XK) (k : Nat) (p : Addr × Obj) (D : Addr) : Prop where
  tk : Tk X W
  rm : L2H.RoomH k X.A
  nd : X.N.Nodup
  hk : HotK X p
  hz : L2.Zc (.ref D) none p.2
/-- the def x, called with the handled exception, of the class c, answers with a text -/
structure NmS (P : Program) (w : World) (K : Kx) (base : Heap) (k : Nat) (x : Str) (c : String) (str : List Char) : Prop where
  ex : ∃ (f : Addr) (fd : FuncData) (ps : List Str) (D : Addr), K.mg x = some (.ref f) ∧ PySem.W.keepIn K.K (.ref f) = true ∧ Binds K.K fd ps [] ∧ ps.length = 1 ∧ K.mg (Str.ofString c) = some (.ref D) ∧
    ∀ (A : Around) (outer : List PySem.Env) (s : Shared) (H : Hp) (us : List Value) (Q : VK) (E : XK) (p : Addr × Obj), L2H.RoomH k A → L2H.Hot1 A p → L2H.PinOk outer H s p → Env0 P w K.K K.mg base A outer s H → L2.Zc (.ref D) none p.2 → BindsTo s fd ⟨us, []⟩ (ps.zip us) → us = [.ref p.1] →
      (∃ G ι m, GR K G ι m H ∧ ∀ v G' ι' H', Ext G ι H G' ι' H' → GR K G' ι' m H' → RepV K G' ι' v (.d (.str str)) → Q v H') → codeAny (model P w) A (.call (.ref f) ⟨us, []⟩) (CR (L2N.CX P w) outer P w H s Q E) s
section
variable {P : Program} {w : World} {K : Kx} {base : Heap}
theorem nm_ok {x qual : Str} {st : Stmt} {f D : Addr} {fd : FuncData} {N ps : List Str} {k : Nat} {s : Nat → SS} {c : String} {str : List Char} (F : L2.Fun K.K x qual st f fd) (S : FnScope N ps (defScope st)) (hn : ps.length = 1)
    (hm : K.mg x = some (.ref f)) (hk : PySem.W.keepIn K.K (.ref f) = true) (hb : Binds K.K fd ps []) (hD : K.mg (Str.ofString c) = some (.ref D))
    (body : ∀ (X : Cx) (W : XK) (cdv : Value) (A : Around) (outer : List PySem.Env) (sh : Shared) (H : Hp) (p : Addr × Obj), X = L2H.cxH (L2N.CX P w) P w K.K K.mg base N qual (defScope st) f cdv A outer sh H W p → CxH X W k p D → SSs X W (defBody st) (s p.1))
    (mean : ∀ a m, mkFn N.length (s a) [.raw a] m = .ok (.d (.str str)) m) : NmS P w K base (k + 1) x c str := by
  obtain ⟨oc, od, kV, doc, pm, an, cdv, ct, osl, rfl, lk, hcd⟩ := F.ex
  refine ⟨f, _, ps, D, hm, hk, hb, hn, hD, fun A outer s0 H us Q E p hr hot hpin e0 hz hbt hus hq => ?_⟩
  subst hus
  have KX : K.K.In s0.heap := e0.mod.kin.keeps fun b o e => (e0.bs b o e).1
  have lim : s0.heap.NoLimit := e0.mod.nolimit.keeps fun b o e => (e0.bs b o e).1
  have hkind : ∀ y ∈ ps.zip [Value.ref p.1], (defScope st).names.lookup y.1 = some .local ∨ ((defScope st).names.lookup y.1 = some .cell ∧ ((cellsFrom (s0.heap.objs.size + 1) (defScope st).names []).lookup y.1).isSome = true) := fun ⟨n, v⟩ hy => by
    rcases S.par n (List.of_mem_zip hy).1 with q | q
    · exact .inl q
    · exact .inr ⟨q, PySem.W.cellsFrom_some _ _ _ (.inl q)⟩
  refine codeAny_call_function hr.depth (KX _ _ lk) rfl S.co S.gen rfl (PySem.W.codeRec_of KX hcd) (hbt _ _ _ _ ?_)
  refine wpAny_newFunctionEnv_cells S.kind hkind fun env he s1 x => ?_
  subst he
  refine ⟨lim.keeps x.toInCall.keep, codeAny_func ?_⟩
  have I : Inv (L2H.cxH (L2N.CX P w) P w K.K K.mg base N qual (defScope st) f cdv A outer s0 H E p) [] (L2.start N [V.ref p.1]) H s1 := L2H.inv_startH S hpin e0 (by simp [hn]) (.cons rfl .nil) x
  have cx : CxH (L2H.cxH (L2N.CX P w) P w K.K K.mg base N qual (defScope st) f cdv A outer s0 H E p) E k p D :=
    ⟨L2N.takes_of rfl rfl rfl rfl, hr.deeper _, S.nd, ⟨hot, (fun v z => by obtain ⟨_, vs, e, _⟩ := hot; rw [e] at z; cases z), .inl (List.mem_singleton.mpr rfl)⟩, hz⟩
  obtain ⟨G, ι, m, g, q⟩ := hq
  have q2 : tS (L2H.cxH (L2N.CX P w) P w K.K K.mg base N qual (defScope st) f cdv A outer s0 H E p) E (s p.1) { nx := fun _ H' => Q .non H', rt := Q } (L2.start N [V.ref p.1]) H := by
    refine ⟨G, ι, _, m, g, envR_start (ds := [PV.raw p.1]) (.cons rfl .nil), ?_⟩
    have hp : PostK K E G ι H (fnR m.length (s p.1 ([PV.raw p.1].map some ++ List.replicate (N.length - [PV.raw p.1].length) none) m)) Q := by
      have e := mean p.1 m
      unfold mkFn at e
      rw [e]
      exact q
    have hι : m.length = ι.length := g.len.symm
    cases ho : s p.1 ([PV.raw p.1].map some ++ List.replicate (N.length - [PV.raw p.1].length) none) m with
    | no => rw [ho] at hp; exact hp.elim
    | bk _ _ => rw [ho] at hp; exact hp.elim
    | ct _ _ => rw [ho] at hp; exact hp.elim
    | ex e m1 => rw [ho] at hp; exact fun c dx G' ι' H' x g' r' => hp c dx G' _ H' (ext_take x hι) (g'.take _) r'
    | nx ρ1 m1 => rw [ho] at hp; exact fun σ' G' ι' H' x g' _ => hp .non G' _ H' (ext_take x hι) (g'.take _) .non
    | rt v m1 =>
      rw [ho] at hp
      cases v with
      | d d => exact fun v G' ι' H' x g' r' => hp v G' _ H' (ext_take x hι) (g'.take _) r'
      | raw a => exact fun v G' ι' H' x g' r' => hp v G' _ H' (ext_take x hι) (g'.take _) r'
      | obj i =>
        have hp' : PostK K E G ι H (if i < m.length then .ok (.obj i) (m1.take m.length) else .ok (.obj i) m1) Q := hp
        by_cases hi : i < m.length
        · rw [if_pos hi] at hp'
          intro v G' ι' H' x g' r'
          refine hp' v G' _ H' (ext_take x hι) (g'.take _) ?_
          obtain ⟨a, l, h1, h2⟩ := r'
          exact ⟨a, l, by rw [List.getElem?_take, if_pos hi]; exact h1, h2⟩
        · rw [if_neg hi] at hp'
          exact fun v G' ι' H' x g' r' => hp' v G' ι' H' x g' r'
  refine wpAny_mono ((body _ E cdv A outer s0 H p rfl cx).pss.run [] s1 (L2.start N [V.ref p.1]) H _ I q2) (fun fl s' hs => ?_) fun e s' hs => hs
  have fin : ∀ {σ' : L2.St} {H' : Hp} {v : V} {u : Value}, Inv (L2H.cxH (L2N.CX P w) P w K.K K.mg base N qual (defScope st) f cdv A outer s0 H E p) [] σ' H' s' → RelV v u → Q v H' → CE outer P w H s0 Q u s' :=
    fun {σ' H' v u} J rv q => ⟨v, H', J.os, J.bare, J.base, J.hok, rv, q⟩
  cases fl with
  | ret u =>
    obtain ⟨v, σ', H', J, rv, q⟩ := hs
    exact fin J rv q
  | next =>
    obtain ⟨σ', H', J, q⟩ := hs
    exact fin (v := V.non) (u := Value.none) J rfl q
  | brk =>
    obtain ⟨_, _, _, q⟩ := hs
    exact False.elim q
  | cont =>
    obtain ⟨_, _, _, q⟩ := hs
    exact False.elim q
end
end DI
namespace DI
open PySem PySem.Spec PyProof.Rows L2
open LamX (CodeO TabB LamS lamEnv lamCx)
/-- the text of the def that tries -/
inductive TryB : List Stmt → Prop
  | mk {p1 p2 p3 p4 p5 p6 p7 p8 p9 p10 p11 p12 p13 p14 p15 p16 p17 p18 p19 : Pos} {j j2 k2 : Nat} :
    TryB [.Assign [.Name "got" p1] (.Constant .none j p2) p3, .Try [.Assign [.Name "got" p4] (.Tuple [.Constant (.str "told") j2 p5, .Call (.Name "door" p6) [] [] p7] k2 p8) p9]
      [.ExceptHandler (some (.Name "AnchorError" p10)) (some "e") [.Assign [.Name "got" p11] (.Call (.Name "_law_name_of" p12) [.Name "e" p13] [] p14) p15] p16] [] [] p17, .Return (some (.Name "got" p18)) p19]
structure TryS (P : Program) (w : World) (K : Kx) (base : Heap) (k : Nat) (nm : String → Option (List Char)) : Prop where
  ex : ∃ (g CA : Addr) (pg : Arguments) (bg : List Stmt) (sg : Scope) (dV kV doc pm cdv ct oc : Value) (an od : Option Addr) (osl : Array (Option Value)),
    K.mg "_law_try" = some (.ref g) ∧ PySem.W.keepIn K.K (.ref g) = true ∧ K.K.lookup g = some ⟨oc, od, .func (PySem.W.fnOf "_law_try" "_law_try" pg bg sg dV kV doc pm an cdv ct), osl⟩ ∧ PySem.W.codeIn K.K cdv "_law_try" = true ∧
    Binds K.K (PySem.W.fnOf "_law_try" "_law_try" pg bg sg dV kV doc pm an cdv ct) ["door"] [] ∧ FnScope ["door", "got", "e"] ["door"] sg ∧ TryB bg ∧ (sg.names.lookup ("AnchorError" : Str) = some .globalImplicit ∧ sg.names.lookup ("_law_name_of" : Str) = some .globalImplicit ∧
    sg.names.lookup ("door" : Str) = some .local ∧ sg.names.lookup ("got" : Str) = some .local ∧ sg.names.lookup ("e" : Str) = some .local) ∧ K.mg "AnchorError" = some (.ref CA) ∧
    ∀ c str, nm c = some str → NmS P w K base k "_law_name_of" c str ∧ ∃ C, K.mg (Str.ofString c) = some (.ref C) ∧ PySem.W.exmOne K.K (.ref C) (.ref CA) = some true
section
variable {X : Cx} {W : XK} {pins : List (Addr × Obj)} {σ : L2.St} {H : Hp} {s : Shared}
/-- what the def that names says of the handled exception at a -/
def tNm (K : Kx) (nm : String → Option (List Char)) (i : Nat) (a : Addr) (cls : Value) (d : Option Addr) : TE := fun σ H Q => σ[i]? = some (some (.ref a)) ∧ d = none ∧ ∃ c str C, nm c = some str ∧ K.mg (Str.ofString c) = some (.ref C) ∧ cls = .ref C ∧
  ∃ G ι m, GR K G ι m H ∧ ∀ v G' ι' H', Ext G ι H G' ι' H' → GR K G' ι' m H' → RepV K G' ι' v (.d (.str str)) → Q v H'
theorem pe_nm {nm : String → Option (List Char)} {k i : Nat} {a : Addr} {oe : Obj} {cls : Value} {d : Option Addr} {x y : Str} {q1 q2 pos : Pos} (F : ∀ c str, nm c = some str → NmS X.prog X.w X.kx X.base k x c str) (hr : L2H.RoomH k X.A) (hot : L2H.Hot1 X.A (a, oe)) (hp : (a, oe) ∈ X.pn) (hz : L2N.Zn cls d oe)
    (hg : Gl X x) (hN : X.N[i]? = some y) (hv : Vis X.env.scope y) (hdb : (x == ("__debug__" : Str)) = false := by decide +kernel) (hdy : (y == ("__debug__" : Str)) = false := by decide +kernel) (hcy : (y == ("__classdict__" : Str)) = false := by decide +kernel)
    (he : starEach [.Name y q2] X.env = [(false, eval (.Name y q2) X.env)] := by rfl) :
    PE X (.Call (.Name x q1) [.Name y q2] [] pos) (tNm X.kx nm i a cls d) := by
  refine ⟨fun pins s σ H Q I h => ?_⟩
  obtain ⟨hs, hd, c, str, C, hc, hC, hcls, G, ι, m, g, q⟩ := h
  obtain ⟨f, fd, ps, D, h1, h2, h3, h4, h5, h6⟩ := (F c str hc).ex
  have hCD : C = D := by
    have z := hC.symm.trans h5
    exact Value.ref.inj (Option.some.inj z)
  subst hCD
  refine wpAny_Call_Name_kw (ld_glob I hg h1 ?_ hdb)
  refine PySem.W.callWith_K (h₀ := X.base) I.ok.mod.kin h2 (thn ((pa_cons (pe_var (i := i) hN hv hdy hcy) pa_nil he).run pos pins s σ H (fun vs H1 => vs = [.ref a] ∧ H1 = H) I ⟨.ref a, hs, rfl, rfl⟩) fun us s1 ⟨vs, H1, I1, r, e1, e2⟩ => ⟨I1.kIn, ?_⟩) he (by rfl)
  subst e1
  rw [e2] at I1
  cases r with
  | @cons _ u _ us r rr =>
    cases rr
    cases r
    have P1 := I1.pin (a, oe) (List.mem_append_left _ hp)
    have hpin : L2H.PinOk X.stack H s1 (a, oe) := ⟨P1.1, P1.2.1, fun hm => (List.mem_cons.mp (I1.stkSub a hm)).elim P1.2.2.1 P1.2.2.2.1, P1.2.2.2.2⟩
    have b := h3 s1 [.ref a] I1.kIn (by simp [h4])
    rw [List.append_nil] at b
    have hz' : L2.Zc (.ref C) none oe := by rw [← hcls, ← hd]; exact hz.zc
    refine wpAny_call (codeAny_mono (h6 X.A X.stack s1 H [.ref a] Q (fun _ _ _ => False) (a, oe) hr hot hpin I1.env0 hz' b rfl ⟨G, ι, m, g, q⟩) fun r s' hq => ?_)
    cases r with
    | error e =>
      obtain ⟨_, _, _, _, _, _, _, _, _, _, _, _, hE⟩ := hq
      exact hE.elim
    | ok fl =>
      cases fl with
      | ret u => exact I1.after hq
      | next => exact False.elim hq
      | brk => exact False.elim hq
      | cont => exact False.elim hq
theorem takes0 {Y : Cx} : L2N.Takes Y (fun _ _ _ _ => False) := fun _ _ x => by
  obtain ⟨_, _, _, _, _, _, _, _, _, _, _, _, _, _, _, _, z⟩ := x
  exact z.elim
def tDoor (X : Cx) (fb : SE) (σ0 : L2.St) (f c' : Addr) (W : WX) : TE := fun σZ HZ Q => ∃ E : XK, (∀ cls d H', E cls d H' → W cls d σZ H') ∧ σZ[0]? = some (some (.ref f)) ∧ HZ c' = some (CodeO c' (X.env.qual ++ "<lambda>")) ∧ tE X E fb σ0 HZ Q
def tTold (X : Cx) (fb : SE) (σ0 : L2.St) (f c' : Addr) (W : WX) : TS := tAsg (tTup (tCons (tC (.str "told")) (tCons (tDoor X fb σ0 f c' W) tNil))) (gName 1)
def tSay (X : Cx) (nm : String → Option (List Char)) (a : Addr) (cls : Value) (d : Option Addr) : TS := tAsg (tNm X.kx nm 2 a cls d) (gName 1)
/-- _law_try(lambda: body) -/
theorem se_try {k : Nat} {nm : String → Option (List Char)} {fb : SE} {c P : Addr} {q : String} {params : Arguments} {body : Expr} {scope : Scope} {p lpos pos : Pos} (T : TryS X.prog X.w X.kx X.base k nm) (hr : Room (k + 2) X.A) (TB : TabB X.base X.mg c P) (hcode : X.env.code = .ref c) (hq : X.env.qual ++ "<lambda>" = Str.ofString q)
    (L : LamS X.env.scope scope) (hdef : defaultsOf params X.env = ([], [])) (hbind : ∀ (q : Str) (cl : List (Str × Addr)) (pm cv ctv : Value), bindArgs (PySem.W.kla_fn "<lambda>" q params body scope cl pm cv ctv) ⟨[], []⟩ = pure [])
    (hbody : ∀ (A : Around) (outer : List PySem.Env) (s : Shared) (H : Hp) (E : XK) (f c' : Addr), Room k (A.deeper (lamEnv X scope s.heap.objs.size f c')) → SEx (lamCxN X A outer s H E scope f c') E body fb) (hg : Gl X "_law_try" := by rfl) :
    SEx X W (.Call (.Name "_law_try" p) [.Lambda params body scope lpos] [] pos) (eTry P q nm fb) := by
  refine ⟨⟨fun pins s σ0 H Q I h => ?_⟩⟩
  obtain ⟨G, ι, ρ, m, g, ev, post⟩ := h
  obtain ⟨gt, CA, pg, bg, sg, dV, kV, doc, pm, cdv, ct, oc, an, od, osl, t1, t2, t3, t4, t5, t6, t7, ⟨l1, l2, l3, l4, l5⟩, t8, t9⟩ := T.ex
  cases t7
  have hm0 : m[0]? = some (.tab P q) ∧ PostE X W G ι H (match fb ρ m with
    | .ok (.d v) m1 => .ok (.d (.tup [.str k_told, v])) m1
    | .ok _ _ => .no
    | .ex e m1 => (match e.pay, nm e.cls with
      | none, some s => .ok (.d (.str s)) m1
      | _, _ => .no)
    | .no => .no) Q := by
    unfold eTry at post
    split at post
    · rename_i T' q' e
      split at post
      · rename_i e2
        obtain ⟨e3, e4⟩ := e2
        subst e3 e4
        exact ⟨e, post⟩
      · exact post.elim
    · exact post.elim
  obtain ⟨hm0, post⟩ := hm0
  refine wpAny_Call_Name_kw (ld_glob I hg t1 ?_ (by decide +kernel))
  refine PySem.W.callWith_K (h₀ := X.base) I.ok.mod.kin t2 ?_ (by rfl) (by rfl)
  show wpAny _ _ (spliced ((false, eval (.Lambda params body scope lpos) X.env) :: backTo pos (starEach [] X.env))) _ _ s
  refine Calls.spliced_cons (lam_mk I g hm0 TB hcode hq hdef (L.has I.ok) fun f c' pm' ctv G1 H1 s' I1 x1 g1 hf hfn hfr hco => ?_)
  refine Calls.spliced_nil ⟨I1.kIn, ?_⟩
  have rc : codeAny (model X.prog X.w) X.A (.call (.ref gt) ⟨[.ref f], []⟩) (CR C8.CX0 X.stack X.prog X.w H1 s' Q C8.E0) s' := by
    refine LamX.run_ofS (N := ["door", "got", "e"]) (ps := ["door"]) (us := [.ref f]) (vs := [.ref f]) t3 t4 t6 hr I1.env0 (t5 s' [.ref f] I1.kIn rfl) (.cons rfl .nil) rfl fun hr' => ?_
    generalize hX' : cxOf C8.CX0 X.prog X.w X.K X.mg X.base ["door", "got", "e"] "_law_try" sg gt cdv X.A X.stack s' H1 C8.E0 = X'
    have eN : X'.N = (["door", "got", "e"] : List Str) := by subst hX'; rfl
    have nd : X'.N.Nodup := by rw [eN]; decide +kernel
    have hloc : ∀ {y : Str}, sg.names.lookup y = some .local → X'.env.scope.names.lookup y = some .local := fun h => by subst hX'; exact h
    have gl : ∀ {y : Str}, sg.names.lookup y = some .globalImplicit → Gl X' y := fun h => by subst hX'; exact h
    have got : ∀ Y : Cx, Y.N = X'.N → Y.env = X'.env → ∀ {e : Expr} {te : TE} {p1 p2 : Pos}, PE Y e te → swapsWith e (some (.Name "got" p1)) p2.line Y.env = pure false → PS Y (.Assign [.Name "got" p1] e p2) (tAsg te (gName 1)) := fun Y e1 e2 {e te p1 p2} he hs =>
      ps_set (by rw [e1]; exact nd) (by rw [e1, eN]; rfl) (by rw [e2]; exact .inl (hloc l4)) he hs (.inr (by rw [e2]; exact hloc l4))
    have kX : X'.kx = X.kx := by subst hX'; rfl
    have mE : X'.mg "AnchorError" = some (.ref CA) := by subst hX'; exact t8
    have rX : Room (k + 1) X'.A := by subst hX'; exact hr'
    refine ⟨tSeq (tAsg (tC .non) (gName 1)) (tSeq (fun D σ H => tTold X fb σ0 f c' (wAs X'.K (.ref CA) 2 (tSay X nm) (fun _ _ _ _ => False) D) D σ H) (tRet (tVar 1))), ?_, ?_⟩
    · refine pss_cons (got X' rfl rfl pe_non rfl) (pss_cons (L2N.ps_try_as (i := 2) (tb := tTold X fb σ0 f c') (ts := tSay X nm)
        (by subst hX'; rfl) (by subst hX'; rfl) nd (by rw [eN]; rfl) (hloc l5) ⟨gl l1, by decide +kernel, .inl mE⟩ takes0 (fun W pn xe tk _ => ?_) (fun a oe cls d pn hz hfs => ?_)) (pss_one (ps_ret (pe_var (i := 1) (by rw [eN]; rfl) (.inl (hloc l4)) (by decide +kernel) (by decide +kernel)))))
      · refine pss_one (got (X'.tr pn xe) rfl rfl (pe_tup (pa_cons pe_str (pa_cons ?_ pa_nil (by rfl)) (by rfl))) (by rfl))
        subst hX'
        exact pe_actN (i := 0) (tb := fun E => tE X E fb) I1 L hf hfn hfr (hbind _ _ _ _ _) tk hr' (fun E A outer s H hr2 => (hbody A outer s H E f c' hr2).pe) (by rfl) (.inl l3) (by decide +kernel) (by decide +kernel)
      · refine pss_one (got (X'.suite a ((a, oe) :: pn)) rfl rfl ?_ (by rfl))
        subst hX'
        obtain ⟨vs, hvs⟩ := hfs
        exact pe_nm (i := 2) (fun c str h => (t9 c str h).1) ⟨(hr'.mono (Nat.le_succ _)).dp, (hr'.mono (Nat.le_succ _)).un⟩ ⟨rfl, vs, hvs, hz.2.2 vs hvs⟩ List.mem_cons_self hz l2 (by rfl) (.inl l5)
    · have g1' := g1
      show tTold X fb σ0 f c' (wAs X'.K (.ref CA) 2 (tSay X nm) (fun _ _ _ _ => False) { nx := tRet (tVar 1) { nx := fun _ H' => Q .non H', rt := Q }, rt := Q }) { nx := tRet (tVar 1) { nx := fun _ H' => Q .non H', rt := Q }, rt := Q } [some (.ref f), some .non, none] H1
      have hc1 : H1 c' = some (CodeO c' (X.env.qual ++ "<lambda>")) := g1.sub _ _ hco
      have ev1 := ev.ext x1
      cases hf : fb ρ m with
      | no => rw [hf] at post; exact post.elim
      | ok v m1 =>
        rw [hf] at post
        cases v with
        | obj i => exact post.elim
        | raw a => exact post.elim
        | d v =>
          have post : ∀ x G' ι' H', Ext G ι H G' ι' H' → GR X.kx G' ι' m1 H' → RepV X.kx G' ι' x (.d (.tup [.str k_told, v])) → Q x H' := post
          refine ⟨fun _ _ _ => False, fun _ _ _ z => z.elim, rfl, hc1, G1, ι, ρ, m, g1, ev1, ?_⟩
          rw [hf]
          intro y G2 ι2 H2 x2 g2 r2
          refine ⟨by rw [sizeLine_eq]; simp, fun p hp => ⟨.ref p, rfl, ?_⟩⟩
          obtain ⟨g3, x3⟩ := g2.lay hp (.tup [.str "told", y])
          refine post _ _ _ _ ((x1.trans x2).trans x3) g3 ?_
          exact .tup (SqT.of upd_same) (.cons (show Rep X.kx _ (.str (txt k_told)) (.str k_told) from .str _) (.cons (Rep.mono x3.sub r2) .nil))
      | ex e m1 =>
        rw [hf] at post
        have key : ∃ str, e.pay = none ∧ nm e.cls = some str ∧ PostE X W G ι H (.ok (.d (.str str)) m1) Q := by
          cases hp : e.pay with
          | some z => simp only [hp] at post; exact post.elim
          | none =>
            cases hn : nm e.cls with
            | none => simp only [hp, hn] at post; exact post.elim
            | some str => simp only [hp, hn] at post; exact ⟨str, rfl, rfl, post⟩
        obtain ⟨str, hpay, hnm, post⟩ := key
        have post : ∀ x G' ι' H', Ext G ι H G' ι' H' → GR X.kx G' ι' m1 H' → RepV X.kx G' ι' x (.d (.str str)) → Q x H' := post
        obtain ⟨_, C, hC, hex⟩ := t9 e.cls str hnm
        refine ⟨fun cls dx H2 => ∃ G2 ι2, Ext G1 ι H1 G2 ι2 H2 ∧ GR X.kx G2 ι2 m1 H2 ∧ ExR X.kx G2 H2 e cls dx, fun cls dx H2 ⟨G2, ι2, x2, g2, C', hC', hcls, hdx⟩ => ?_, rfl, hc1, G1, ι, ρ, m, g1, ev1, ?_⟩
        · have hCC : C' = C := Value.ref.inj (Option.some.inj (hC'.symm.trans hC))
          subst hCC hcls
          have hdx : dx = none := by rw [hpay] at hdx; exact hdx
          subst hdx
          refine ⟨true, by subst hX'; exact hex, fun _ a _ => ?_, fun z => nomatch z⟩
          refine ⟨rfl, rfl, e.cls, str, C', hnm, hC, rfl, G2, ι2, m1, g2, fun v G3 ι3 H3 x3 g3 r3 => ?_⟩
          refine ⟨v, rfl, ?_⟩
          exact post _ _ _ _ ((x1.trans x2).trans x3) g3 r3
        · rw [hf]
          exact fun c dx G2 ι2 H2 x2 g2 r2 => ⟨G2, ι2, x2, g2, r2⟩
  refine wpAny_call (codeAny_mono rc fun r s2 hq => ?_)
  cases r with
  | error e => exact (show False from hq).elim
  | ok fl =>
    cases fl with
    | ret u => exact I1.after hq
    | next => exact False.elim hq
    | brk => exact False.elim hq
    | cont => exact False.elim hq
end
end DI
namespace DI
open PySem PySem.Spec PyProof.Rows L2
open LamX (TabB LamS lamEnv)
theorem roomH_mono {j k : Nat} {A : Around} (r : L2H.RoomH k A) (h : j ≤ k) : L2H.RoomH j A := r.mono h
theorem NmS.mono {P : Program} {w : World} {K : Kx} {base : Heap} {j k : Nat} {x : Str} {c : String} {str : List Char} (h : NmS P w K base j x c str) (hk : j ≤ k) : NmS P w K base k x c str := by
  obtain ⟨f, fd, ps, D, h1, h2, h3, h4, h5, h6⟩ := h.ex
  exact ⟨f, fd, ps, D, h1, h2, h3, h4, h5, fun A outer s H us Q E p hr => h6 A outer s H us Q E p (hr.mono hk)⟩
theorem FnS.zero {P : Program} {w : World} {K : Kx} {base : Heap} {k n : Nat} {x : Str} {f : Addr} {fd : FuncData} {ps : List Str} (h1 : K.mg x = some (.ref f)) (h2 : PySem.W.keepIn K.K (.ref f) = true) (h3 : Binds K.K fd ps []) (h4 : ps.length = n) : FnS P w K base k x n (fun _ _ => .no) :=
  ⟨f, fd, ps, h1, h2, h3, ⟨fun vs H Q E ⟨G, ι, m, ds, hl, _, r, _⟩ => by rw [paired_len r, hl, h4], fun A outer s H args us vs Q E hr e0 hb r ⟨_, _, _, _, _, _, _, p⟩ => p.elim⟩⟩
section
variable {X : Cx} {W : XK}
/-- _law_try(lambda: body) -/
theorem se_tryC {k : Nat} {nm : String → Option (List Char)} {fb : SE} {c P : Addr} {q : String} {params : Arguments} {body : Expr} {scope : Scope} {p lpos pos : Pos} (T : TryS X.prog X.w X.kx X.base k nm) (hr : Room (k + 2) X.A) (nd : X.N.Nodup) (TB : TabB X.base X.mg c P) (hbody : ∀ (Y : Cx) (E : XK), (∃ A outer s H f c', Y = lamCxN X A outer s H E scope f c') → CxOk Y E k → SEx Y E body fb) (hcode : X.env.code = .ref c := by rfl) (hq : X.env.qual ++ "<lambda>" = Str.ofString q := by rfl)
    (L : LamX.lamSB X.env.scope scope = true := by rfl) (hdef : defaultsOf params X.env = ([], []) := by rfl) (hbind : ∀ (q : Str) (cl : List (Str × Addr)) (pm cv ctv : Value), bindArgs (PySem.W.kla_fn "<lambda>" q params body scope cl pm cv ctv) ⟨[], []⟩ = pure [] := by intros; rfl)
    (hg : Gl X "_law_try" := by rfl) : SEx X W (.Call (.Name "_law_try" p) [.Lambda params body scope lpos] [] pos) (eTry P q nm fb) :=
  se_try T hr TB hcode hq (LamX.lamS_by L) hdef hbind (fun A outer s H E f c' h => hbody _ E ⟨A, outer, s, H, f, c', rfl⟩ ⟨lam_tk, h, rfl, nd⟩) hg
end
section
variable {P : Program} {w : World} {K : Kx} {base : Heap}
/-- a def of the text: its body's meaning is its worth -/
theorem fn_okT {x qual : Str} {st : Stmt} {f cA : Addr} {N ps : List Str} {k n : Nat} {s : SS} {oc kV doc pm ct : Value} {od an : Option Addr} {osl : Array (Option Value)} (lk : K.K.lookup f = some ⟨oc, od, .func (PySem.W.fnOf x qual (defArgs st) (defBody st) (defScope st) .none kV doc pm an (.ref cA) ct), osl⟩) (hcd : PySem.W.codeIn K.K (.ref cA) qual = true) (S : FnScope N ps (defScope st)) (hn : ps.length = n)
    (body : ∀ (X : Cx) (W : XK) (A : Around) (outer : List PySem.Env) (sh : Shared) (H : Hp), X = cxOf (L2N.CX P w) P w K.K K.mg base N qual (defScope st) f (.ref cA) A outer sh H W → CxOk X W k → PassesOwn (model X.prog X.w) X.A X.env X.xe → SSs X W (defBody st) s) :
    FnOk P w K.K K.mg base (L2N.CX P w) (k + 1) f (PySem.W.fnOf x qual (defArgs st) (defBody st) (defScope st) .none kV doc pm an (.ref cA) ct) ps (spF K n (mkFn N.length s)) := by
  refine fn_of lk hcd S (fun vs H Q E h => ?_) fun A outer sh H vs Q E hr h => ?_
  · obtain ⟨G, ι, m, ds, hl, _, r, _⟩ := h
    rw [paired_len r, hl, hn]
  · obtain ⟨G, ι, m, ds, hl, g, r, p⟩ := h
    have cx : CxOk (cxOf (L2N.CX P w) P w K.K K.mg base N qual (defScope st) f (.ref cA) A outer sh H E) E k :=
      ⟨L2N.takes_of rfl rfl rfl rfl, hr, rfl, S.nd⟩
    refine ⟨_, (body _ E A outer sh H rfl cx (passes_of rfl)).pss, ?_⟩
    refine ⟨G, ι, _, m, g, envR_start r, ?_⟩
    have hp : PostK K E G ι H (fnR m.length (s (ds.map some ++ List.replicate (N.length - ds.length) none) m)) Q := p
    have hι : m.length = ι.length := g.len.symm
    cases ho : s (ds.map some ++ List.replicate (N.length - ds.length) none) m with
    | no => rw [ho] at hp; exact hp.elim
    | bk _ _ => rw [ho] at hp; exact hp.elim
    | ct _ _ => rw [ho] at hp; exact hp.elim
    | ex e m1 => rw [ho] at hp; exact fun c dx G' ι' H' x g' r' => hp c dx G' _ H' (ext_take x hι) (g'.take _) r'
    | nx ρ1 m1 => rw [ho] at hp; exact fun σ' G' ι' H' x g' _ => hp .non G' _ H' (ext_take x hι) (g'.take _) .non
    | rt v m1 =>
      rw [ho] at hp
      cases v with
      | d d => exact fun v G' ι' H' x g' r' => hp v G' _ H' (ext_take x hι) (g'.take _) r'
      | raw a => exact fun v G' ι' H' x g' r' => hp v G' _ H' (ext_take x hι) (g'.take _) r'
      | obj i =>
        have hp' : PostK K E G ι H (if i < m.length then .ok (.obj i) (m1.take m.length) else .ok (.obj i) m1) Q := hp
        by_cases hi : i < m.length
        · rw [if_pos hi] at hp'
          intro v G' ι' H' x g' r'
          refine hp' v G' _ H' (ext_take x hι) (g'.take _) ?_
          obtain ⟨a, l, h1, h2⟩ := r'
          exact ⟨a, l, by rw [List.getElem?_take, if_pos hi]; exact h1, h2⟩
        · rw [if_neg hi] at hp'
          exact fun v G' ι' H' x g' r' => hp' v G' ι' H' x g' r'
end
end DI
namespace DI
/-! what each def of the text means: printed by gen.py -/
def k_first : List Char := "first".toList
def k_Place : List Char := "Place".toList
def k_Number : List Char := "Number".toList
def k_Facts : List Char := "Facts".toList
def k_Lines : List Char := "Lines".toList
def k_Texts : List Char := "Texts".toList
def k_Anchor : List Char := "Anchor".toList
def k_Files : List Char := "Files".toList
def k_Remark : List Char := "Remark".toList
def k_State : List Char := "State".toList
def k_abcdefgh : List Char := "abcdefgh".toList
def k_abcdefghijklmnopqrstuvwx : List Char := "abcdefghijklmnopqrstuvwxyz".toList
def k_Anchor_ : List Char := "Anchor+".toList
def k_nInvalidAnchor : List Char := "Anchor+".toList
/-- the short names of what is raised -/
def nmOf (c : String) : Option (List Char) := if c = "InvalidAnchor" then some k_nInvalidAnchor else none
def s__law_deck : SS := sSeq (sIf (e2 dGe (eV 0) (e2 dPow (eC (.int 10)) (eC (.int 18)))) (sRet (eNw (nLst [e2 dSub (eV 0) (e2 dPow (eC (.int 10)) (eC (.int 18))), e2 dMod (e1 dInt (eV 0)) (eC (.int 2147483579)), eV 1]))) (sNil)) (sRet (eNw (nLst [eC (.int 0), e2 dMod (e1 dInt (eV 0)) (eC (.int 2147483579)), eV 1])))
def F__law_deck : Fn := mkFn 2 (s__law_deck)
def s__law_pick : SS := sSeq (sIf (e2 dGt (e2 dIx (eV 0) (eC (.int 0))) (eC (.int 1))) (sSeq (sAsg (tN 2) (e2 dMod (e1 dInt (e2 dIx (eV 0) (eC (.int 0)))) (eV 1))) (sSeq (sSetI (eV 0) (eC (.int 0)) (e2 dDiv (e2 dIx (eV 0) (eC (.int 0))) (eV 1))) (sRet (eV 2)))) (sNil)) (sSeq (sSetI (eV 0) (eC (.int 2)) (e2 dAdd (e2 dIx (eV 0) (eC (.int 2))) (eC (.int 1)))) (sSeq (sAsg (tN 3) (e2 dMod (e1 dInt (e2 dPow (e1 dInt (e2 dAdd (e2 dIx (eV 0) (eC (.int 1))) (e2 dMulD (eC (.int 15485867)) (e2 dIx (eV 0) (eC (.int 2)))))) (eC (.int 5)))) (eC (.int 2147483647)))) (sSeq (sAsg (tN 2) (e2 dDiv (e2 dMod (e1 dInt (e2 dPow (e1 dInt (e2 dAdd (eV 3) (e2 dMulD (eC (.int 7919)) (e2 dIx (eV 0) (eC (.int 2)))))) (eC (.int 3)))) (eC (.int 2147483629))) (eC (.int 32)))) (sRet (e2 dMod (e1 dInt (eV 2)) (eV 1))))))
def F__law_pick : Fn := mkFn 4 (s__law_pick)
def s__law_rule : SS := sSeq (sAsg (tN 1) (e2 dIx (eFz (nLst [eC (.str k_first), eC (.str ['l', 'a', 's', 't'])])) (eCall F__law_pick [eV 0, eC (.int 2)]))) (sSeq (sAsg (tN 2) (e2 dIx (eFz (nLst [e2 dAdd (eC (.int 1)) (eCall F__law_pick [eV 0, eC (.int 3)]), e2 dAdd (eC (.int 1)) (eCall F__law_pick [eV 0, eC (.int 6)]), e2 dAdd (eC (.int 1)) (eCall F__law_pick [eV 0, eC (.int 10)])])) (eCall F__law_pick [eV 0, eC (.int 3)]))) (sRet (eTup [eCall F__law_pick [eV 0, eC (.int 4)], eCall F__law_pick [eV 0, eC (.int 4)], eCall F__law_pick [eV 0, eC (.int 5)], eV 2, eV 1])))
def F__law_rule : Fn := mkFn 3 (s__law_rule)
def s__law_anchor : SS := sSeq (sAsg (tN 3) (e2 dAdd (e2 dAdd (e2 dMulD (eC (.str ['^'])) (eC (.int 3))) (eV 1)) (e2 dMulD (eC (.str ['$'])) (eC (.int 3))))) (sRet (eTup [eV 2, eSl dSl (eV 3) (oS (e2 dSub (e2 dAdd (eV 2) (eC (.int 3))) (e2 dIx (eV 0) (eC (.int 0))))) (oS (e2 dAdd (eV 2) (eC (.int 3)))), e2 dIx (eV 1) (eV 2), eSl dSl (eV 3) (oS (e2 dAdd (eV 2) (eC (.int 4)))) (oS (e2 dAdd (e2 dAdd (eV 2) (eC (.int 4))) (e2 dIx (eV 0) (eC (.int 1)))))]))
def F__law_anchor : Fn := mkFn 4 (s__law_anchor)
def s__law_name_of (c : String) (a0 : Nat) : SS := sSeq (sAsg (tN 1) (eFz (nLst [eIsE a0 (c == "InvalidText"), eIsE a0 (c == "InvalidRow"), eIsE a0 (c == "InvalidLine")]))) (sSeq (sAsg (tN 1) (e2 dAdd (eV 1) (eFz (nLst [eIsE a0 (c == "InvalidPlace"), eIsE a0 (c == "InvalidNumber"), eIsE a0 (c == "InvalidFacts")])))) (sSeq (sAsg (tN 1) (e2 dAdd (eV 1) (eFz (nLst [eIsE a0 (c == "InvalidLines"), eIsE a0 (c == "InvalidTexts"), eIsE a0 (c == "InvalidRule")])))) (sSeq (sAsg (tN 1) (e2 dAdd (eV 1) (eFz (nLst [eIsE a0 (c == "InvalidAnchor"), eIsE a0 (c == "InvalidSeen"), eIsE a0 (c == "InvalidName")])))) (sSeq (sAsg (tN 1) (e2 dAdd (eV 1) (eFz (nLst [eIsE a0 (c == "InvalidFiles"), eIsE a0 (c == "NoFile"), eIsE a0 (c == "NoRemark")])))) (sSeq (sAsg (tN 1) (e2 dAdd (eV 1) (eFz (nLst [eIsE a0 (c == "WrongState"), eIsE a0 (c == "NothingToUndo"), eIsE a0 (c == "TooMany")])))) (sSeq (sAsg (tN 1) (e2 dAdd (eV 1) (eFz (nLst [eIsE a0 (c == "InvalidForm"), eIsE a0 (c == "InvalidWay")])))) (sSeq (sAsg (tN 2) (eFz (nLst [eC (.str ['T', 'e', 'x', 't']), eC (.str ['R', 'o', 'w']), eC (.str ['L', 'i', 'n', 'e']), eC (.str k_Place), eC (.str k_Number), eC (.str k_Facts), eC (.str k_Lines), eC (.str k_Texts), eC (.str ['R', 'u', 'l', 'e']), eC (.str k_Anchor), eC (.str ['S', 'e', 'e', 'n']), eC (.str ['N', 'a', 'm', 'e'])]))) (sSeq (sAsg (tN 2) (e2 dAdd (eV 2) (eFz (nLst [eC (.str k_Files), eC (.str ['F', 'i', 'l', 'e']), eC (.str k_Remark), eC (.str k_State), eC (.str ['U', 'n', 'd', 'o']), eC (.str ['M', 'a', 'n', 'y']), eC (.str ['F', 'o', 'r', 'm']), eC (.str ['W', 'a', 'y'])])))) (sSeq (sAsg (tN 3) (eFz (nLc [4, 5] (iZipLL (eV 2) (eV 1)) (tT [4, 5]) (eV 5) (eV 4)))) (sRet (e2 dAdd (e2s dJoin (eC (.str [])) (eV 3)) (eIf (eIsE a0 true) (eC (.str ['+'])) (eC (.str []))))))))))))))
def F__law_name_of (c : String) (a0 : Nat) : Fn := mkFn 6 (s__law_name_of c a0)
def s__law_no_rules : SS := sSeq (sAsg (tN 1) (eFz (nSqA (eCall F__law_rule [eV 0])))) (sSeq (sAsg (tN 2) (eCall F__law_pick [eV 0, eC (.int 5)])) (sSeq (sAsg (tN 3) (e2 dIx (eFz (nLst [e1 dNeg (eC (.int 1)), eC (.int 4), eC (.int 5), eC (.int 11), eC (.int 0), eC .non, eC (.bl true), eC (.str ['n', 'e', 'a', 'r']), eC (.str []), eC (.int 2), eC (.str k_first)])) (eCall F__law_pick [eV 0, eC (.int 11)]))) (sRet (eFz (nLst [e1 dTupOf (e2 dAdd (e2 dAdd (eSl dSl (eV 1) oN (oS (eV 2))) (eFz (nLst [eV 3]))) (eSl dSl (eV 1) (oS (e2 dAdd (eV 2) (eC (.int 1)))) oN)), e1 dTupOf (eSl dSl (eV 1) oN (oS (eC (.int 4)))), e1 dTupOf (e2 dAdd (eV 1) (eFz (nLst [eC (.int 1)]))), eV 1, eC .non])))))
def F__law_no_rules : Fn := mkFn 4 (s__law_no_rules)
def s__law_text : SS := sSeq (sAsg (tN 2) (e2 dIx (eFz (nLst [eC (.str ['a', 'b']), eC (.str ['a', 'b', 'c']), eC (.str k_abcdefgh), eC (.str ['a'])])) (eCall F__law_pick [eV 0, eC (.int 4)]))) (sSeq (sAsg (tN 3) (eCall F__law_pick [eV 0, e2 dAdd (eV 1) (eC (.int 1))])) (sRet (e2s dJoin (eC (.str [])) (eFz (nLc [4] (iR1 (eV 3)) (tN 4) (tsY) (e2 dIx (eV 2) (eCall F__law_pick [eV 0, e1 dLen (eV 2)])))))))
def F__law_text : Fn := mkFn 5 (s__law_text)
def s__law_sort : SS := sSeq (sIf (e1 (dIsiP "bool") (eV 0)) (sRet (eC (.int 1))) (sNil)) (sSeq (sIf (e1 (dIsiP "int") (eV 0)) (sRet (eC (.int 2))) (sNil)) (sSeq (sIf (e1 (dIsiP "str") (eV 0)) (sRet (eC (.int 3))) (sNil)) (sSeq (sIf (e1 (dIsiP "list") (eV 0)) (sRet (eC (.int 4))) (sNil)) (sRet (eIf (e1 (dIsiP "tuple") (eV 0)) (eC (.int 5)) (eC (.int 6)))))))
def F__law_sort : Fn := mkFn 1 (s__law_sort)
def s__law_same (Fr : Fn) : SS := sSeq (sIf (e2 dNe (eCall F__law_sort [eV 0]) (eCall F__law_sort [eV 1])) (sRet (eC (.bl false))) (sNil)) (sSeq (sIf (eAnd (e2 dGt (eCall F__law_sort [eV 0]) (eC (.int 3))) (e2 dLt (eCall F__law_sort [eV 0]) (eC (.int 6)))) (sSeq (sIf (e2 dNe (e1 dLen (eV 0)) (e1 dLen (eV 1))) (sRet (eC (.bl false))) (sNil)) (sRet (e2 dEq (eFz (nLc [2, 3] (iEnum (eV 0)) (tT [2, 3]) (eNot (eCall Fr [eV 3, e2 dIx (eV 1) (eV 2)])) (eV 2))) (eFz (nLst []))))) (sNil)) (sRet (e2 dEq (eV 0) (eV 1))))
def R__law_same : Nat → Fn
  | 0 => fun _ _ => .no
  | r + 1 => mkFn 4 (s__law_same (R__law_same r))
def F__law_same : Fn := R__law_same 4
def s_is_from : SS := sRet (eAnd (e1 (dIsiP "int") (eV 0)) (eAnd (eNot (e1 (dIsiP "bool") (eV 0))) (eCh dLe dLe (eV 1) (eV 0) (eV 2))))
def F_is_from : Fn := mkFn 3 (s_is_from)
def s_is_rule_of : SS := sSeq (sIf (eOr (eNot (e1 (dIsiP "tuple") (eV 0))) (e2 dNe (e1 dLen (eV 0)) (eC (.int 5)))) (sRet (eC (.bl false))) (sNil)) (sSeq (sAsg (tT [1, 2, 3, 4, 5]) (eV 0)) (sSeq (sIf (eOr (eNot (eCall F_is_from [eV 1, eC (.int 0), eC (.int 3)])) (eOr (eNot (eCall F_is_from [eV 2, eC (.int 0), eC (.int 3)])) (eOr (eNot (eCall F_is_from [eV 3, eC (.int 0), eC (.int 4)])) (eNot (eCall F_is_from [eV 4, eC (.int 1), eC (.int 10)]))))) (sRet (eC (.bl false))) (sNil)) (sRet (eAnd (e1 (dIsiP "str") (eV 5)) (e2 dIn (eV 5) (eC (.tup [(.str k_first), (.str ['l', 'a', 's', 't'])])))))))
def F_is_rule_of : Fn := mkFn 6 (s_is_rule_of)
def s_need_rule : SS := sIf (eNot (eCall F_is_rule_of [eV 0])) (sNo) (sNil)
def F_need_rule : Fn := mkFn 1 (s_need_rule)
def s_is_sign : SS := sRet (eAnd (e1 (dIsiP "str") (eV 0)) (eAnd (e2 dEq (e1 dLen (eV 0)) (eC (.int 1))) (e2 dIn (eV 0) (eC (.str k_abcdefghijklmnopqrstuvwx)))))
def F_is_sign : Fn := mkFn 1 (s_is_sign)
def s_is_anchor_of : SS := sSeq (sIf (eOr (eNot (e1 (dIsiP "tuple") (eV 1))) (eOr (e2 dNe (e1 dLen (eV 1)) (eC (.int 4))) (eOr (eNot (eCall F_is_from [e2 dIx (eV 1) (eC (.int 0)), eC (.int 0), eC (.int 23)])) (eNot (eCall F_is_sign [e2 dIx (eV 1) (eC (.int 2))]))))) (sRet (eC (.bl false))) (sNil)) (sSeq (sPar [2, 3] [e2 dIx (eV 1) (eC (.int 1)), e2 dIx (eV 1) (eC (.int 3))]) (sSeq (sIf (eOr (eNot (e1 (dIsiP "str") (eV 2))) (eNot (e1 (dIsiP "str") (eV 3)))) (sRet (eC (.bl false))) (sNil)) (sSeq (sIf (eOr (e2 dNe (e1 dLen (eV 2)) (e2 dIx (eV 0) (eC (.int 0)))) (e2 dNe (e1 dLen (eV 3)) (e2 dIx (eV 0) (eC (.int 1))))) (sRet (eC (.bl false))) (sNil)) (sRet (e1 dAll (eFz (nLc [4] (iV (e2 dAdd (e2s dLstrip (eV 2) (eC (.str ['^']))) (e2s dRstrip (eV 3) (eC (.str ['$']))))) (tN 4) (tsY) (e2 dIn (eV 4) (eC (.str k_abcdefghijklmnopqrstuvwx))))))))))
def F_is_anchor_of : Fn := mkFn 5 (s_is_anchor_of)
def s_need_anchor : SS := sIf (eNot (eCall F_is_anchor_of [eV 0, eV 1])) (sRaise ⟨"InvalidAnchor", none⟩) (sNil)
def F_need_anchor : Fn := mkFn 2 (s_need_anchor)
def s_is_text_of : SS := sRet (eAnd (e1 (dIsiP "str") (eV 0)) (eAnd (e2 dLe (e1 dLen (eV 0)) (eC (.int 24))) (e1 dAll (eFz (nLc [1] (iV (eV 0)) (tN 1) (tsY) (e2 dIn (eV 1) (eC (.str k_abcdefghijklmnopqrstuvwx))))))))
def F_is_text_of : Fn := mkFn 2 (s_is_text_of)
def s_need_text : SS := sIf (eNot (eCall F_is_text_of [eV 0])) (sNo) (sNil)
def F_need_text : Fn := mkFn 1 (s_need_text)
def s_need_line : SS := sIf (eNot (eCall F_is_from [eV 1, eC (.int 0), e2 dSub (e1 dLen (eV 0)) (eC (.int 1))])) (sNo) (sNil)
def F_need_line : Fn := mkFn 2 (s_need_line)
def s_sign_at : SS := sSeq (sIf (e2 dLt (eV 1) (eC (.int 0))) (sRet (eC (.str ['^']))) (sNil)) (sRet (eIf (e2 dLt (eV 1) (e1 dLen (eV 0))) (e2 dIx (eV 0) (eV 1)) (eC (.str ['$']))))
def F_sign_at : Fn := mkFn 2 (s_sign_at)
def s_around : SS := sSeq (sAsg (tN 3) (e2s dJoin (eC (.str [])) (eFz (nLc [4] (iR2 (e2 dSub (eV 2) (e2 dIx (eV 0) (eC (.int 0)))) (eV 2)) (tN 4) (tsY) (eCall F_sign_at [eV 1, eV 4]))))) (sRet (eTup [eV 3, e2s dJoin (eC (.str [])) (eFz (nLc [4] (iR2 (e2 dAdd (eV 2) (eC (.int 1))) (e2 dAdd (e2 dAdd (eV 2) (eC (.int 1))) (e2 dIx (eV 0) (eC (.int 1))))) (tN 4) (tsY) (eCall F_sign_at [eV 1, eV 4])))]))
def F_around : Fn := mkFn 5 (s_around)
def s_anchor_of : SS := sSeq (sAsg (tT [3, 4]) (eCall F_around [eV 0, eV 1, eV 2])) (sRet (eTup [eV 2, eV 3, e2 dIx (eV 1) (eV 2), eV 4]))
def F_anchor_of : Fn := mkFn 5 (s_anchor_of)
def s_anchor : SS := sSeq (sExpr (eCall F_need_rule [eV 0])) (sSeq (sExpr (eCall F_need_text [eV 1])) (sSeq (sExpr (eCall F_need_line [eV 1, eV 2])) (sRet (eCall F_anchor_of [eV 0, eV 1, eV 2]))))
def F_anchor : Fn := mkFn 3 (s_anchor)
def s_score_at : SS := sSeq (sAsg (tT [4, 5]) (eCall F_around [eV 0, eV 2, eV 3])) (sSeq (sAsg (tN 6) (e1 dLen (eFz (nLc [7, 8] (iZip (e2 dAdd (e2 dIx (eV 1) (eC (.int 1))) (e2 dIx (eV 1) (eC (.int 3)))) (e2 dAdd (eV 4) (eV 5))) (tT [7, 8]) (e2 dEq (eV 7) (eV 8)) (eC (.int 1)))))) (sRet (e2 dAdd (eV 6) (eIf (e2 dEq (e2 dIx (eV 2) (eV 3)) (e2 dIx (eV 1) (eC (.int 2)))) (e2 dIx (eV 0) (eC (.int 2))) (eC (.int 0))))))
def F_score_at : Fn := mkFn 9 (s_score_at)
def s_scores_at : SS := sRet (eFz (nLc [3] (iR1 (e1 dLen (eV 2))) (tN 3) (tsY) (eCall F_score_at [eV 0, eV 1, eV 2, eV 3])))
def F_scores_at : Fn := mkFn 4 (s_scores_at)
def s_scores : SS := sSeq (sExpr (eCall F_need_rule [eV 0])) (sSeq (sExpr (eCall F_need_anchor [eV 0, eV 1])) (sSeq (sExpr (eCall F_need_text [eV 2])) (sRet (eCall F_scores_at [eV 0, eV 1, eV 2]))))
def F_scores : Fn := mkFn 3 (s_scores)
def s_best_place : SS := sSeq (sIf (eOr (e2 dEq (eV 0) (eFz (nLst []))) (e2 dLt (e1 dMax (eV 0)) (eV 1))) (sRet (e1 dNeg (eC (.int 1)))) (sNil)) (sSeq (sAsg (tN 3) (eFz (nLc [4, 5] (iEnum (eV 0)) (tT [4, 5]) (e2 dEq (eV 5) (e1 dMax (eV 0))) (eV 4)))) (sRet (eIf (e2 dEq (eV 2) (eC (.str k_first))) (e2 dIx (eV 3) (eC (.int 0))) (e2 dIx (eV 3) (e1 dNeg (eC (.int 1)))))))
def F_best_place : Fn := mkFn 6 (s_best_place)
def s_found_at : SS := sRet (eCall F_best_place [eCall F_scores_at [eV 0, eV 1, eV 2], e2 dIx (eV 0) (eC (.int 3)), e2 dIx (eV 0) (eC (.int 4))])
def F_found_at : Fn := mkFn 3 (s_found_at)
def s_found : SS := sSeq (sExpr (eCall F_need_rule [eV 0])) (sSeq (sExpr (eCall F_need_anchor [eV 0, eV 1])) (sSeq (sExpr (eCall F_need_text [eV 2])) (sRet (eCall F_found_at [eV 0, eV 1, eV 2]))))
def F_found : Fn := mkFn 3 (s_found)
def s__law_bool : SS := sRet (eAnd (e1 (dIsiP "bool") (eV 0)) (e2 dEq (eV 0) (eV 1)))
def F__law_bool : Fn := mkFn 2 (s__law_bool)
def s__law_walked : SS := sSeq (sPar [2, 3, 4] [eC (.str []), eNw (nLst []), eC (.int 0)]) (sSeq (sFor (tN 5) (iV (eV 1)) (sSeq (sAsg (tN 6) (e1 dLen (eV 3))) (sSeq (sIf (e2 dNe (eV 5) (eC (.str ['=']))) (sAsg (tN 4) (e2 dAdd (eV 4) (eC (.int 1)))) (sNil)) (sIf (e2 dEq (eV 5) (eC (.str ['-']))) (sApp (eV 3) (e1 dNeg (eC (.int 1)))) (sIf (e2 dEq (e2 dIx (eV 5) (eC (.int 0))) (eC (.str ['+']))) (sAsg (tN 2) (e2 dAdd (eV 2) (e2 dIx (eV 5) (eC (.int 1))))) (sSeq (sApp (eV 3) (e1 dLen (eV 2))) (sAsg (tN 2) (e2 dAdd (eV 2) (eIf (e2 dEq (eV 5) (eC (.str ['=']))) (e2 dIx (eV 0) (eV 6)) (e2 dIx (eV 5) (eC (.int 1)))))))))))) (sFz 3 (sRet (eTup [eV 2, eV 3, eV 4]))))
def F__law_walked : Fn := mkFn 7 (s__law_walked)
def s_is_rule : SS := sRet (eCall F_is_rule_of [eV 0])
def F_is_rule : Fn := mkFn 1 (s_is_rule)
def s__law_is_rule : SS := sSeq (sIf (eOr (eNot (e1 (dIsiP "tuple") (eV 0))) (eOr (e2 dNe (e1 dLen (eV 0)) (eC (.int 5))) (e2 dNe (eFz (nLc [1] (iV (eSl dSl (eV 0) oN (oS (eC (.int 4))))) (tN 1) (eNot (e1 (dIsiP "int") (eV 1))) (eC (.int 1)))) (eFz (nLst []))))) (sRet (eC (.bl false))) (sNil)) (sSeq (sIf (eOr (e2 dNe (eFz (nLc [1] (iV (eSl dSl (eV 0) oN (oS (eC (.int 4))))) (tN 1) (e1 (dIsiP "bool") (eV 1)) (eC (.int 1)))) (eFz (nLst []))) (e2 dNotIn (e2 dIx (eV 0) (eC (.int 4))) (eFz (nLst [eC (.str k_first), eC (.str ['l', 'a', 's', 't'])])))) (sRet (eC (.bl false))) (sNil)) (sRet (eAnd (eCh dLe dLe (eC (.int 0)) (e2 dIx (eV 0) (eC (.int 0))) (eC (.int 3))) (eAnd (eCh dLe dLe (eC (.int 0)) (e2 dIx (eV 0) (eC (.int 1))) (eC (.int 3))) (eAnd (eCh dLe dLe (eC (.int 0)) (e2 dIx (eV 0) (eC (.int 2))) (eC (.int 4))) (eCh dLe dLe (eC (.int 1)) (e2 dIx (eV 0) (eC (.int 3))) (eC (.int 10))))))))
def F__law_is_rule : Fn := mkFn 2 (s__law_is_rule)
def s__law_row : SS := sSeq (sPar [4, 5] [eFz (nLst []), eV 3]) (sSeq (sFor (tN 6) (iV (eV 1)) (sSeq (sAsg (tN 7) (eCall F__law_pick [eV 0, eC (.int 7)])) (sSeq (sAsg (tN 8) (e2 dIx (eV 2) (eCall F__law_pick [eV 0, e1 dLen (eV 2)]))) (sSeq (sAsg (tN 9) (eAnd (e2 dNe (eV 4) (eFz (nLst []))) (e2 dEq (e2 dIx (e2 dIx (eV 4) (e1 dNeg (eC (.int 1)))) (eC (.int 0))) (eC (.str ['+']))))) (sIf (eAnd (e2 dGt (eV 5) (eC (.int 0))) (eAnd (e2 dEq (eV 7) (eC (.int 0))) (eNot (eV 9)))) (sPar [4, 5] [e2 dAdd (eV 4) (eFz (nLst [eC (.str ['-'])])), e2 dSub (eV 5) (eC (.int 1))]) (sIf (eAnd (e2 dGt (eV 5) (eC (.int 0))) (eAnd (e2 dEq (eV 7) (eC (.int 1))) (e2 dNe (eV 8) (eV 6)))) (sPar [4, 5] [e2 dAdd (eV 4) (eFz (nLst [e2 dAdd (eC (.str ['~'])) (eV 8)])), e2 dSub (eV 5) (eC (.int 1))]) (sSeq (sIf (eAnd (e2 dGt (eV 5) (eC (.int 0))) (e2 dEq (eV 7) (eC (.int 2)))) (sPar [4, 5] [e2 dAdd (eV 4) (eFz (nLst [e2 dAdd (eC (.str ['+'])) (eV 8)])), e2 dSub (eV 5) (eC (.int 1))]) (sNil)) (sAsg (tN 4) (e2 dAdd (eV 4) (eFz (nLst [eC (.str ['='])]))))))))))) (sSeq (sIf (eAnd (e2 dGt (eV 5) (eC (.int 0))) (e2 dEq (eCall F__law_pick [eV 0, eC (.int 3)]) (eC (.int 0)))) (sAsg (tN 4) (e2 dAdd (eV 4) (eFz (nLst [e2 dAdd (eC (.str ['+'])) (e2 dIx (eV 2) (eCall F__law_pick [eV 0, e1 dLen (eV 2)]))])))) (sNil)) (sRet (e1 dTupOf (eV 4)))))
def F__law_row : Fn := mkFn 10 (s__law_row)
def s__law_scores : SS := sSeq (sAsg (tN 3) (eNw (nLst []))) (sSeq (sFor (tN 4) (iR1 (e1 dLen (eV 2))) (sSeq (sPar [5, 6] [e2 dIx (eCall F__law_anchor [eV 0, eV 2, eV 4]) (eC (.int 1)), e2 dIx (eCall F__law_anchor [eV 0, eV 2, eV 4]) (eC (.int 3))]) (sSeq (sAsg (tN 7) (eFz (nLc [8, 9] (iZip (e2 dAdd (eV 5) (eV 6)) (e2 dAdd (e2 dIx (eV 1) (eC (.int 1))) (e2 dIx (eV 1) (eC (.int 3))))) (tT [8, 9]) (e2 dEq (eV 8) (eV 9)) (eC (.int 1))))) (sApp (eV 3) (e2 dAdd (e1 dLen (eV 7)) (e2 dIx (eFz (nLst [eC (.int 0), e2 dIx (eV 0) (eC (.int 2))])) (e1 dInt (e2 dEq (e2 dIx (eV 2) (eV 4)) (e2 dIx (eV 1) (eC (.int 2))))))))))) (sFz 3 (sRet (eV 3))))
def F__law_scores : Fn := mkFn 10 (s__law_scores)
def s__law_found : SS := sSeq (sAsg (tN 4) (e2 dAdd (e2 dAdd (eC (.str ['^', '^', '^'])) (eV 1)) (eC (.str ['$', '$', '$'])))) (sSeq (sAsg (tN 5) (e2 dAdd (e2 dAdd (eC (.str ['^', '^', '^'])) (eV 3)) (eC (.str ['$', '$', '$'])))) (sSeq (sPar [6, 7] [eC (.int 0), e1 dNeg (eC (.int 1))]) (sSeq (sFor (tN 8) (iR1 (e1 dLen (eV 3))) (sSeq (sAsg (tN 9) (eIf (e2 dEq (e2 dIx (eV 3) (eV 8)) (e2 dIx (eV 1) (eV 2))) (e2 dIx (eV 0) (eC (.int 2))) (eC (.int 0)))) (sSeq (sFor (tN 10) (iV (e2 dAdd (eFz (nRg2 (e2 dSub (eC (.int 0)) (e2 dIx (eV 0) (eC (.int 0)))) (eC (.int 0)))) (eFz (nRg2 (eC (.int 1)) (e2 dAdd (e2 dIx (eV 0) (eC (.int 1))) (eC (.int 1))))))) (sAsg (tN 9) (e2 dAdd (eV 9) (e1 dInt (e2 dEq (e2 dIx (eV 4) (e2 dAdd (e2 dAdd (eV 2) (eC (.int 3))) (eV 10))) (e2 dIx (eV 5) (e2 dAdd (e2 dAdd (eV 8) (eC (.int 3))) (eV 10)))))))) (sSeq (sAsg (tN 11) (eOr (e2 dGt (eV 9) (eV 6)) (eAnd (e2 dEq (eV 9) (eV 6)) (e2 dEq (e2 dIx (eV 0) (eC (.int 4))) (eC (.str ['l', 'a', 's', 't'])))))) (sIf (eAnd (e2 dGe (eV 9) (e2 dIx (eV 0) (eC (.int 3)))) (eOr (e2 dLt (eV 7) (eC (.int 0))) (eV 11))) (sPar [6, 7] [eV 9, eV 8]) (sNil)))))) (sRet (eV 7)))))
def F__law_found : Fn := mkFn 12 (s__law_found)
def s_law (T0 : Nat) : SS := sSeq (sFor (tN 1) (iV (eSl dSl (e2 dAdd (eFz (nLst [eC (.int 0)])) (eV 0)) oN (oS (eC (.int 10))))) (sSeq (sAsg (tN 2) (eCall F__law_deck [eV 1, eC (.int 13)])) (sSeq (sAsg (tN 3) (eCall F__law_rule [eV 2])) (sSeq (sFor (tN 4) (iV (e2 dAdd (eFz (nLst [eV 3])) (eCall F__law_no_rules [eV 2]))) (sIf (eNot (eCall F__law_bool [eCall F_is_rule [eV 4], eCall F__law_is_rule [eV 4]])) (sRet (eC (.bl false))) (sNil))) (sSeq (sAsg (tN 5) (e2 dAdd (eC (.str ['a', 'b'])) (eCall F__law_text [eV 2, eC (.int 7)]))) (sSeq (sAsg (tN 6) (eCall F__law_pick [eV 2, e1 dLen (eV 5)])) (sSeq (sAsg (tN 7) (eCall F__law_anchor [eV 3, eV 5, eV 6])) (sSeq (sAsg (tN 8) (eFz (nLst [e2 dIx (eCall F__law_walked [eV 5, eCall F__law_row [eV 2, eV 5, eC (.str ['a', 'b', 'x']), eC (.int 4)]]) (eC (.int 0)), eCall F__law_text [eV 2, eC (.int 8)], eV 5]))) (sSeq (sIf (eNot (eCall F__law_same [eCall F_anchor [eV 3, eV 5, eV 6], eV 7])) (sRet (eC (.bl false))) (sNil)) (sFor (tN 9) (iV (eV 8)) (sSeq (sIf (eNot (eCall F__law_same [eCall F_scores [eV 3, eV 7, eV 9], eCall F__law_scores [eV 3, eV 7, eV 9]])) (sRet (eC (.bl false))) (sNil)) (sIf (eNot (eCall F__law_same [eCall F_found [eV 3, eV 7, eV 9], eCall F__law_found [eV 3, eV 5, eV 6, eV 9]])) (sRet (eC (.bl false))) (sNil))))))))))))) (sSeq (sAsg (tN 10) (eTup [eC (.int 1), eC (.int 1), eC (.int 2), eC (.int 2), eC (.str k_first)])) (sSeq (sFor (tN 11) (iV (eTup [eC .non, eTup [eC (.int 0), eC (.str ['a']), eC (.str ['b'])], eTup [eC (.int 24), eC (.str ['a']), eC (.str ['b']), eC (.str ['c'])], eTup [eC (.int 0), eC (.str ['$']), eC (.str ['b']), eC (.str ['c'])], eTup [eC (.int 0), eC (.str ['a']), eC (.str ['^']), eC (.str ['c'])], eTup [eC (.int 0), eC (.str []), eC (.str ['b']), eC (.str ['c'])]])) (sSeq (sIf (e2 dNe (eTry T0 "law.<locals>.<lambda>" nmOf (eCall F_scores [eV 10, eV 11, eC .non])) (eC (.str k_Anchor_))) (sRet (eC (.bl false))) (sNil)) (sIf (e2 dNe (eTry T0 "law.<locals>.<lambda>" nmOf (eCall F_found [eV 10, eV 11, eC .non])) (eC (.str k_Anchor_))) (sRet (eC (.bl false))) (sNil)))) (sSeq (sFor (tN 11) (iV (eTup [eFz (nLst [eC (.int 0), eC (.str ['a']), eC (.str ['b']), eC (.str ['c'])]), eTup [eC (.int 0), eC (.str ['a']), eC (.str ['b', 'b']), eC (.str ['c'])], eTup [eC (.int 0), eC (.str ['a']), eC (.str ['b']), eC (.str ['^'])], eTup [eC (.int 0), eC (.str ['a']), eC (.str ['b']), eC (.str ['A'])], eTup [eC (.bl true), eC (.str ['a']), eC (.str ['b']), eC (.str ['c'])]])) (sIf (e2 dNe (eTry T0 "law.<locals>.<lambda>" nmOf (eCall F_found [eV 10, eV 11, eC .non])) (eC (.str k_Anchor_))) (sRet (eC (.bl false))) (sNil))) (sSeq (sIf (e2 dNe (eTry T0 "law.<locals>.<lambda>" nmOf (eCall F_found [eTup [eC (.int 2), eC (.int 0), eC (.int 0), eC (.int 1), eC (.str ['l', 'a', 's', 't'])], eTup [eC (.int 0), eC (.str ['a', '^']), eC (.str ['b']), eC (.str [])], eC (.str ['a', 'b'])])) (eC (.str k_Anchor_))) (sRet (eC (.bl false))) (sNil)) (sRet (eAnd (e2 dEq (eCall F_scores [eV 10, eTup [eC (.int 1), eC (.str ['a']), eC (.str ['b']), eC (.str ['c'])], eC (.str ['b', 'a', 'b'])]) (eFz (nLst [eC (.int 2), eC (.int 0), eC (.int 3)]))) (e2 dEq (eCall F_found [eV 10, eTup [eC (.int 1), eC (.str ['a']), eC (.str ['b']), eC (.str ['c'])], eC (.str [])]) (e1 dNeg (eC (.int 1))))))))))
def F_law (T0 : Nat) : Fn := mkFn 12 (s_law T0)
theorem mean_InvalidAnchor : ∀ a m, mkFn 6 (s__law_name_of "InvalidAnchor" a) [.raw a] m = .ok (.d (.str k_nInvalidAnchor)) m := by
  intro a m
  simp [mkFn, s__law_name_of, sSeq, sAsg, sRet, eFz, nLst, eArgs, eIsE, e2, tN, Res.run, dAdd, vw, eV, eC, nLc, iZipLL, lcL, tT, setAll, wipeE, lineL, e2s, eIf, tst, fnR, Res.bind, dJoin, strsD, joinC, ofO, k_nInvalidAnchor, k_Anchor]
end DI
namespace DI
open PySem PySem.Spec PyProof.Rows L2
def top (i : Nat) : Stmt := PySem.Challenge.pw_anchorholds_k13_anchors_scores_and_findi.main.body.getD i (.Pass ⟨0, 0, 0, 0⟩)
structure Txt (K : Kx) : Prop where
  z_all : K.mg "all" = none
  z_bool : K.mg "bool" = none
  z_enumerate : K.mg "enumerate" = none
  z_int : K.mg "int" = none
  z_isinstance : K.mg "isinstance" = none
  z_len : K.mg "len" = none
  z_list : K.mg "list" = none
  z_max : K.mg "max" = none
  z_range : K.mg "range" = none
  z_str : K.mg "str" = none
  z_tuple : K.mg "tuple" = none
  z_zip : K.mg "zip" = none
  c_MOST_LINES : GlobC K "MOST_LINES" (.int 24)
  c_SIGNS : GlobC K "SIGNS" (.str k_abcdefghijklmnopqrstuvwx)
  c_TIES : GlobC K "TIES" (.tup [(.str k_first), (.str ['l', 'a', 's', 't'])])
  x_InvalidAnchor : ∃ C, ExcF K "InvalidAnchor" C
section
variable {P : Program} {w : World} {K : Kx} {base : Heap}
theorem ok__law_deck {fa : Addr} {fd : FuncData} (F : L2.Fun K.K "_law_deck" "_law_deck" (top 48) fa fd) (T : Txt K)  : FnOk P w K.K K.mg base (L2N.CX P w) 1 fa fd ["cell", "turn"] (spF K 2 F__law_deck) := by
  have S : FnScope ["cell", "turn"] ["cell", "turn"] (defScope (top 48)) := ⟨rfl, rfl, rfl, by decide +kernel, rfl, by decide +kernel, by decide +kernel⟩
  refine fn_ok (N := ["cell", "turn"]) (ps := ["cell", "turn"]) (n := 2) (k := 0) (s := s__law_deck) F S rfl fun X W cdv A outer sh H hX cx hp => ?_
  subst hX
  exact (ss_cons (ss_if (st_cmp (sc_op op_ge ds_ge (se_var 0) (se_bin op_pow ds_pow se_int se_int))) (ss_one (ss_ret (NEx.nw (ne_lst (sa_cons (se_bin op_sub ds_sub (se_var 0) (se_bin op_pow ds_pow se_int se_int)) (sa_cons (se_bin op_mod ds_mod (se_bt call_int1 b_int T.z_int (se_var 0)) se_int) (sa_cons (se_var 1) sa_nil))))))) ss_nil)
    (ss_one (ss_ret (NEx.nw (ne_lst (sa_cons se_int (sa_cons (se_bin op_mod ds_mod (se_bt call_int1 b_int T.z_int (se_var 0)) se_int) (sa_cons (se_var 1) sa_nil))))))))
theorem ok__law_pick {fa : Addr} {fd : FuncData} (F : L2.Fun K.K "_law_pick" "_law_pick" (top 49) fa fd) (T : Txt K)  : FnOk P w K.K K.mg base (L2N.CX P w) 1 fa fd ["deck", "limit"] (spF K 2 F__law_pick) := by
  have S : FnScope ["deck", "limit", "got", "number"] ["deck", "limit"] (defScope (top 49)) := ⟨rfl, rfl, rfl, by decide +kernel, rfl, by decide +kernel, by decide +kernel⟩
  refine fn_ok (N := ["deck", "limit", "got", "number"]) (ps := ["deck", "limit"]) (n := 2) (k := 0) (s := s__law_pick) F S rfl fun X W cdv A outer sh H hX cx hp => ?_
  subst hX
  exact (ss_cons (ss_if (st_cmp (sc_op op_gt ds_gt (se_ix (se_var 0) se_int) se_int)) (ss_cons (ss_asg (tg_name 2 cx.nd) (se_bin op_mod ds_mod (se_bt call_int1 b_int T.z_int (se_ix (se_var 0) se_int)) (se_var 1)))
    (ss_cons (ss_setI (se_var 0) se_int (se_bin op_fdiv ds_div (se_ix (se_var 0) se_int) (se_var 1)))
    (ss_one (ss_ret (se_var 2))))) ss_nil)
    (ss_cons (ss_setI (se_var 0) se_int (se_bin op_addD ds_add (se_ix (se_var 0) se_int) se_int))
    (ss_cons (ss_asg (tg_name 3 cx.nd) (se_bin op_mod ds_mod (se_bt call_int1 b_int T.z_int (se_bin op_pow ds_pow (se_bt call_int1 b_int T.z_int (se_bin op_addD ds_add (se_ix (se_var 0) se_int) (se_bin op_mulD ds_mulD se_int (se_ix (se_var 0) se_int)))) se_int)) se_int))
    (ss_cons (ss_asg (tg_name 2 cx.nd) (se_bin op_fdiv ds_div (se_bin op_mod ds_mod (se_bt call_int1 b_int T.z_int (se_bin op_pow ds_pow (se_bt call_int1 b_int T.z_int (se_bin op_addD ds_add (se_var 3) (se_bin op_mulD ds_mulD se_int (se_ix (se_var 0) se_int)))) se_int)) se_int) se_int))
    (ss_one (ss_ret (se_bin op_mod ds_mod (se_bt call_int1 b_int T.z_int (se_var 2)) (se_var 1))))))))
theorem ok__law_rule {fa : Addr} {fd : FuncData} (F : L2.Fun K.K "_law_rule" "_law_rule" (top 58) fa fd) (T : Txt K) (H__law_pick : FnS P w K base 1 "_law_pick" 2 F__law_pick) : FnOk P w K.K K.mg base (L2N.CX P w) 2 fa fd ["deck"] (spF K 1 F__law_rule) := by
  have S : FnScope ["deck", "ties", "low"] ["deck"] (defScope (top 58)) := ⟨rfl, rfl, rfl, by decide +kernel, rfl, by decide +kernel, by decide +kernel⟩
  refine fn_ok (N := ["deck", "ties", "low"]) (ps := ["deck"]) (n := 1) (k := 1) (s := s__law_rule) F S rfl fun X W cdv A outer sh H hX cx hp => ?_
  subst hX
  exact (ss_cons (ss_asg (tg_name 1 cx.nd) (se_ix (NEx.fz (ne_lst (sa_cons (se_str k_first) (sa_cons (se_str ['l', 'a', 's', 't']) sa_nil)))) (se_call H__law_pick cx.tk cx.rm (sa_cons (se_var 0) (sa_cons se_int sa_nil)))))
    (ss_cons (ss_asg (tg_name 2 cx.nd) (se_ix (NEx.fz (ne_lst (sa_cons (se_bin op_addD ds_add se_int (se_call H__law_pick cx.tk cx.rm (sa_cons (se_var 0) (sa_cons se_int sa_nil)))) (sa_cons (se_bin op_addD ds_add se_int (se_call H__law_pick cx.tk cx.rm (sa_cons (se_var 0) (sa_cons se_int sa_nil)))) (sa_cons (se_bin op_addD ds_add se_int (se_call H__law_pick cx.tk cx.rm (sa_cons (se_var 0) (sa_cons se_int sa_nil)))) sa_nil))))) (se_call H__law_pick cx.tk cx.rm (sa_cons (se_var 0) (sa_cons se_int sa_nil)))))
    (ss_one (ss_ret (se_tup (sa_cons (se_call H__law_pick cx.tk cx.rm (sa_cons (se_var 0) (sa_cons se_int sa_nil))) (sa_cons (se_call H__law_pick cx.tk cx.rm (sa_cons (se_var 0) (sa_cons se_int sa_nil))) (sa_cons (se_call H__law_pick cx.tk cx.rm (sa_cons (se_var 0) (sa_cons se_int sa_nil))) (sa_cons (se_var 2) (sa_cons (se_var 1) sa_nil))))))))))
theorem ok__law_anchor {fa : Addr} {fd : FuncData} (F : L2.Fun K.K "_law_anchor" "_law_anchor" (top 60) fa fd) (T : Txt K)  : FnOk P w K.K K.mg base (L2N.CX P w) 1 fa fd ["rule", "text", "line"] (spF K 3 F__law_anchor) := by
  have S : FnScope ["rule", "text", "line", "wide"] ["rule", "text", "line"] (defScope (top 60)) := ⟨rfl, rfl, rfl, by decide +kernel, rfl, by decide +kernel, by decide +kernel⟩
  refine fn_ok (N := ["rule", "text", "line", "wide"]) (ps := ["rule", "text", "line"]) (n := 3) (k := 0) (s := s__law_anchor) F S rfl fun X W cdv A outer sh H hX cx hp => ?_
  subst hX
  exact (ss_cons (ss_asg (tg_name 3 cx.nd) (se_bin op_addD ds_add (se_bin op_addD ds_add (se_bin op_mulD ds_mulD (se_str ['^']) se_int) (se_var 1)) (se_bin op_mulD ds_mulD (se_str ['$']) se_int)))
    (ss_one (ss_ret (se_tup (sa_cons (se_var 2) (sa_cons (se_slice (se_var 3) (so_some (se_bin op_sub ds_sub (se_bin op_addD ds_add (se_var 2) se_int) (se_ix (se_var 0) se_int))) (so_some (se_bin op_addD ds_add (se_var 2) se_int))) (sa_cons (se_ix (se_var 1) (se_var 2)) (sa_cons (se_slice (se_var 3) (so_some (se_bin op_addD ds_add (se_var 2) se_int)) (so_some (se_bin op_addD ds_add (se_bin op_addD ds_add (se_var 2) se_int) (se_ix (se_var 0) se_int)))) sa_nil))))))))
structure NmF (K : Kx) (D : Addr) (c : String) : Prop where
  ex : L2.ExcC K.K D
  i_InvalidText : IsF K D "InvalidText" (c == "InvalidText")
  i_InvalidRow : IsF K D "InvalidRow" (c == "InvalidRow")
  i_InvalidLine : IsF K D "InvalidLine" (c == "InvalidLine")
  i_InvalidPlace : IsF K D "InvalidPlace" (c == "InvalidPlace")
  i_InvalidNumber : IsF K D "InvalidNumber" (c == "InvalidNumber")
  i_InvalidFacts : IsF K D "InvalidFacts" (c == "InvalidFacts")
  i_InvalidLines : IsF K D "InvalidLines" (c == "InvalidLines")
  i_InvalidTexts : IsF K D "InvalidTexts" (c == "InvalidTexts")
  i_InvalidRule : IsF K D "InvalidRule" (c == "InvalidRule")
  i_InvalidAnchor : IsF K D "InvalidAnchor" (c == "InvalidAnchor")
  i_InvalidSeen : IsF K D "InvalidSeen" (c == "InvalidSeen")
  i_InvalidName : IsF K D "InvalidName" (c == "InvalidName")
  i_InvalidFiles : IsF K D "InvalidFiles" (c == "InvalidFiles")
  i_NoFile : IsF K D "NoFile" (c == "NoFile")
  i_NoRemark : IsF K D "NoRemark" (c == "NoRemark")
  i_WrongState : IsF K D "WrongState" (c == "WrongState")
  i_NothingToUndo : IsF K D "NothingToUndo" (c == "NothingToUndo")
  i_TooMany : IsF K D "TooMany" (c == "TooMany")
  i_InvalidForm : IsF K D "InvalidForm" (c == "InvalidForm")
  i_InvalidWay : IsF K D "InvalidWay" (c == "InvalidWay")
  i_ValueError : IsF K D "ValueError" true
theorem ok__law_name_of (c : String) (str : List Char) {fa D : Addr} {fd : FuncData} (F : L2.Fun K.K "_law_name_of" "_law_name_of" (top 53) fa fd) (T : Txt K) (NF : NmF K D c) (hm : K.mg "_law_name_of" = some (.ref fa)) (hk : PySem.W.keepIn K.K (.ref fa) = true) (hb : Binds K.K fd ["e"] []) (hD : K.mg (Str.ofString c) = some (.ref D))
    (mean : ∀ a m, mkFn 6 (s__law_name_of c a) [.raw a] m = .ok (.d (.str str)) m) : NmS P w K base 1 "_law_name_of" c str := by
  have S : FnScope ["e", "matching", "words", "got", "word", "good"] ["e"] (defScope (top 53)) := ⟨rfl, rfl, rfl, by decide +kernel, rfl, by decide +kernel, by decide +kernel⟩
  refine nm_ok (s := s__law_name_of c) F S rfl hm hk hb hD (fun X W cdv A outer sh H p hX cx => ?_) mean
  subst hX
  exact (ss_cons (ss_asg (tg_name 1 cx.nd) (NEx.fz (ne_lst (sa_cons (se_isE cx.hk NF.ex cx.hz T.z_isinstance NF.i_InvalidText) (sa_cons (se_isE cx.hk NF.ex cx.hz T.z_isinstance NF.i_InvalidRow) (sa_cons (se_isE cx.hk NF.ex cx.hz T.z_isinstance NF.i_InvalidLine) sa_nil))) (hl := Nat.le_of_ble_eq_true rfl))))
    (ss_cons (ss_asg (tg_name 1 cx.nd) (se_bin op_addD ds_add (se_var 1) (NEx.fz (ne_lst (sa_cons (se_isE cx.hk NF.ex cx.hz T.z_isinstance NF.i_InvalidPlace) (sa_cons (se_isE cx.hk NF.ex cx.hz T.z_isinstance NF.i_InvalidNumber) (sa_cons (se_isE cx.hk NF.ex cx.hz T.z_isinstance NF.i_InvalidFacts) sa_nil))) (hl := Nat.le_of_ble_eq_true rfl)))))
    (ss_cons (ss_asg (tg_name 1 cx.nd) (se_bin op_addD ds_add (se_var 1) (NEx.fz (ne_lst (sa_cons (se_isE cx.hk NF.ex cx.hz T.z_isinstance NF.i_InvalidLines) (sa_cons (se_isE cx.hk NF.ex cx.hz T.z_isinstance NF.i_InvalidTexts) (sa_cons (se_isE cx.hk NF.ex cx.hz T.z_isinstance NF.i_InvalidRule) sa_nil))) (hl := Nat.le_of_ble_eq_true rfl)))))
    (ss_cons (ss_asg (tg_name 1 cx.nd) (se_bin op_addD ds_add (se_var 1) (NEx.fz (ne_lst (sa_cons (se_isE cx.hk NF.ex cx.hz T.z_isinstance NF.i_InvalidAnchor) (sa_cons (se_isE cx.hk NF.ex cx.hz T.z_isinstance NF.i_InvalidSeen) (sa_cons (se_isE cx.hk NF.ex cx.hz T.z_isinstance NF.i_InvalidName) sa_nil))) (hl := Nat.le_of_ble_eq_true rfl)))))
    (ss_cons (ss_asg (tg_name 1 cx.nd) (se_bin op_addD ds_add (se_var 1) (NEx.fz (ne_lst (sa_cons (se_isE cx.hk NF.ex cx.hz T.z_isinstance NF.i_InvalidFiles) (sa_cons (se_isE cx.hk NF.ex cx.hz T.z_isinstance NF.i_NoFile) (sa_cons (se_isE cx.hk NF.ex cx.hz T.z_isinstance NF.i_NoRemark) sa_nil))) (hl := Nat.le_of_ble_eq_true rfl)))))
    (ss_cons (ss_asg (tg_name 1 cx.nd) (se_bin op_addD ds_add (se_var 1) (NEx.fz (ne_lst (sa_cons (se_isE cx.hk NF.ex cx.hz T.z_isinstance NF.i_WrongState) (sa_cons (se_isE cx.hk NF.ex cx.hz T.z_isinstance NF.i_NothingToUndo) (sa_cons (se_isE cx.hk NF.ex cx.hz T.z_isinstance NF.i_TooMany) sa_nil))) (hl := Nat.le_of_ble_eq_true rfl)))))
    (ss_cons (ss_asg (tg_name 1 cx.nd) (se_bin op_addD ds_add (se_var 1) (NEx.fz (ne_lst (sa_cons (se_isE cx.hk NF.ex cx.hz T.z_isinstance NF.i_InvalidForm) (sa_cons (se_isE cx.hk NF.ex cx.hz T.z_isinstance NF.i_InvalidWay) sa_nil)) (hl := Nat.le_of_ble_eq_true rfl)))))
    (ss_cons (ss_asg (tg_name 2 cx.nd) (NEx.fz (ne_lst (sa_cons (se_str ['T', 'e', 'x', 't']) (sa_cons (se_str ['R', 'o', 'w']) (sa_cons (se_str ['L', 'i', 'n', 'e']) (sa_cons (se_str k_Place) (sa_cons (se_str k_Number) (sa_cons (se_str k_Facts) (sa_cons (se_str k_Lines) (sa_cons (se_str k_Texts) (sa_cons (se_str ['R', 'u', 'l', 'e']) (sa_cons (se_str k_Anchor) (sa_cons (se_str ['S', 'e', 'e', 'n']) (sa_cons (se_str ['N', 'a', 'm', 'e']) sa_nil)))))))))))) (hl := Nat.le_of_ble_eq_true rfl))))
    (ss_cons (ss_asg (tg_name 2 cx.nd) (se_bin op_addD ds_add (se_var 2) (NEx.fz (ne_lst (sa_cons (se_str k_Files) (sa_cons (se_str ['F', 'i', 'l', 'e']) (sa_cons (se_str k_Remark) (sa_cons (se_str k_State) (sa_cons (se_str ['U', 'n', 'd', 'o']) (sa_cons (se_str ['M', 'a', 'n', 'y']) (sa_cons (se_str ['F', 'o', 'r', 'm']) (sa_cons (se_str ['W', 'a', 'y']) sa_nil)))))))) (hl := Nat.le_of_ble_eq_true rfl)))))
    (ss_cons (ss_asgLcH (i := 3) (own := [("word", 4), ("good", 5)]) cx.hk cx.nd T.z_zip (se_var 2) (se_var 1) (blkOk_by (by kernel_rfl)) (fun _ _ _ _ _ z => tg_tupH z (tgs_cons 4 cx.nd (tgs_cons 5 cx.nd tgs_nil))) (fun _ _ _ _ _ => (sts_one (st_val (se_var 5)))) (fun _ _ _ _ _ => (se_var 4)) (sw_true rfl rfl rfl (by decide +kernel)))
    (ss_one (ss_ret (se_bin op_addD ds_add (se_join (se_str []) (se_var 3)) (se_if (st_val (se_isE cx.hk NF.ex cx.hz T.z_isinstance NF.i_ValueError)) (se_str ['+']) (se_str [])))))))))))))))
theorem ok__law_no_rules {fa : Addr} {fd : FuncData} (F : L2.Fun K.K "_law_no_rules" "_law_no_rules" (top 62) fa fd) (T : Txt K) (H__law_rule : FnS P w K base 2 "_law_rule" 1 F__law_rule) (H__law_pick : FnS P w K base 2 "_law_pick" 2 F__law_pick) : FnOk P w K.K K.mg base (L2N.CX P w) 3 fa fd ["deck"] (spF K 1 F__law_no_rules) := by
  have S : FnScope ["deck", "r", "at", "odd"] ["deck"] (defScope (top 62)) := ⟨rfl, rfl, rfl, by decide +kernel, rfl, by decide +kernel, by decide +kernel⟩
  refine fn_ok (N := ["deck", "r", "at", "odd"]) (ps := ["deck"]) (n := 1) (k := 2) (s := s__law_no_rules) F S rfl fun X W cdv A outer sh H hX cx hp => ?_
  subst hX
  exact (ss_cons (ss_asg (tg_name 1 cx.nd) (NEx.fz (ne_listA cx.calm T.z_list (se_call H__law_rule cx.tk cx.rm (sa_cons (se_var 0) sa_nil)))))
    (ss_cons (ss_asg (tg_name 2 cx.nd) (se_call H__law_pick cx.tk cx.rm (sa_cons (se_var 0) (sa_cons se_int sa_nil))))
    (ss_cons (ss_asg (tg_name 3 cx.nd) (se_ix (NEx.fz (ne_lst (sa_cons (se_un un_neg ds_neg se_int) (sa_cons se_int (sa_cons se_int (sa_cons se_int (sa_cons se_int (sa_cons se_non (sa_cons se_bl (sa_cons (se_str ['n', 'e', 'a', 'r']) (sa_cons (se_str []) (sa_cons se_int (sa_cons (se_str k_first) sa_nil))))))))))))) (se_call H__law_pick cx.tk cx.rm (sa_cons (se_var 0) (sa_cons se_int sa_nil)))))
    (ss_one (ss_ret (NEx.fz (ne_lst (sa_cons (se_bt call_tuple_of b_tup T.z_tuple (se_bin op_addD ds_add (se_bin op_addD ds_add (se_slice (se_var 1) so_none (so_some (se_var 2))) (NEx.fz (ne_lst (sa_cons (se_var 3) sa_nil)))) (se_slice (se_var 1) (so_some (se_bin op_addD ds_add (se_var 2) se_int)) so_none))) (sa_cons (se_bt call_tuple_of b_tup T.z_tuple (se_slice (se_var 1) so_none (so_some se_int))) (sa_cons (se_bt call_tuple_of b_tup T.z_tuple (se_bin op_addD ds_add (se_var 1) (NEx.fz (ne_lst (sa_cons se_int sa_nil))))) (sa_cons (se_var 1) (sa_cons se_non sa_nil))))))))))))
theorem ok__law_text {fa : Addr} {fd : FuncData} (F : L2.Fun K.K "_law_text" "_law_text" (top 55) fa fd) (T : Txt K) (H__law_pick : FnS P w K base 1 "_law_pick" 2 F__law_pick) : FnOk P w K.K K.mg base (L2N.CX P w) 2 fa fd ["deck", "most"] (spF K 2 F__law_text) := by
  have S : FnScope ["deck", "most", "signs", "many", "turn"] ["deck", "most"] (defScope (top 55)) := ⟨rfl, rfl, rfl, by decide +kernel, rfl, by decide +kernel, by decide +kernel⟩
  refine fn_ok (N := ["deck", "most", "signs", "many", "turn"]) (ps := ["deck", "most"]) (n := 2) (k := 1) (s := s__law_text) F S rfl fun X W cdv A outer sh H hX cx hp => ?_
  subst hX
  exact (ss_cons (ss_asg (tg_name 2 cx.nd) (se_ix (NEx.fz (ne_lst (sa_cons (se_str ['a', 'b']) (sa_cons (se_str ['a', 'b', 'c']) (sa_cons (se_str k_abcdefgh) (sa_cons (se_str ['a']) sa_nil)))))) (se_call H__law_pick cx.tk cx.rm (sa_cons (se_var 0) (sa_cons se_int sa_nil)))))
    (ss_cons (ss_asg (tg_name 3 cx.nd) (se_call H__law_pick cx.tk cx.rm (sa_cons (se_var 0) (sa_cons (se_bin op_addD ds_add (se_var 1) se_int) sa_nil))))
    (ss_one (ss_ret (se_join (se_str []) (NEx.fz (ne_lcE (own := [("turn", 4)]) cx.calm cx.nd (si_range1 T.z_range (se_var 3)) (blkOk_by (by kernel_rfl)) (fun s1 H1 C1 cl1 fp1 => (tg_name 4 (CxOk.blk cx s1 H1 _ _ fp1).nd)) (fun s1 H1 C1 cl1 fp1 => sts_nil) (fun s1 H1 C1 cl1 fp1 => (se_ix (se_var 2) (se_call H__law_pick (CxOk.blk cx s1 H1 _ _ fp1).tk (CxOk.blk cx s1 H1 _ _ fp1).rm (sa_cons (se_var 0) (sa_cons (se_bf call_len b_len T.z_len (se_var 2)) sa_nil))))))))))))
theorem ok__law_sort {fa : Addr} {fd : FuncData} (F : L2.Fun K.K "_law_sort" "_law_sort" (top 50) fa fd) (T : Txt K)  : FnOk P w K.K K.mg base (L2N.CX P w) 1 fa fd ["thing"] (spF K 1 F__law_sort) := by
  have S : FnScope ["thing"] ["thing"] (defScope (top 50)) := ⟨rfl, rfl, rfl, by decide +kernel, rfl, by decide +kernel, by decide +kernel⟩
  refine fn_ok (N := ["thing"]) (ps := ["thing"]) (n := 1) (k := 0) (s := s__law_sort) F S rfl fun X W cdv A outer sh H hX cx hp => ?_
  subst hX
  exact (ss_cons (ss_if (st_val (se_isiP T.z_isinstance T.z_bool (se_var 0))) (ss_one (ss_ret se_int)) ss_nil)
    (ss_cons (ss_if (st_val (se_isiP T.z_isinstance T.z_int (se_var 0))) (ss_one (ss_ret se_int)) ss_nil)
    (ss_cons (ss_if (st_val (se_isiP T.z_isinstance T.z_str (se_var 0))) (ss_one (ss_ret se_int)) ss_nil)
    (ss_cons (ss_if (st_val (se_isiP T.z_isinstance T.z_list (se_var 0))) (ss_one (ss_ret se_int)) ss_nil)
    (ss_one (ss_ret (se_if (st_val (se_isiP T.z_isinstance T.z_tuple (se_var 0))) se_int se_int)))))))
theorem ok__law_same {k : Nat} {Fr : Fn} {fa : Addr} {fd : FuncData} (F : L2.Fun K.K "_law_same" "_law_same" (top 51) fa fd) (T : Txt K) (H__law_sort : FnS P w K base k "_law_sort" 1 F__law_sort) (H__law_same : FnS P w K base k "_law_same" 2 Fr) : FnOk P w K.K K.mg base (L2N.CX P w) (k + 1) fa fd ["told", "due"] (spF K 2 (mkFn 4 (s__law_same Fr))) := by
  have S : FnScope ["told", "due", "k", "part"] ["told", "due"] (defScope (top 51)) := ⟨rfl, rfl, rfl, by decide +kernel, rfl, by decide +kernel, by decide +kernel⟩
  refine fn_ok (N := ["told", "due", "k", "part"]) (ps := ["told", "due"]) (n := 2) (k := k) (s := s__law_same Fr) F S rfl fun X W cdv A outer sh H hX cx hp => ?_
  subst hX
  exact (ss_cons (ss_if (st_cmp (sc_op (op_neD cx.rm.units) ds_ne (se_call H__law_sort cx.tk cx.rm (sa_cons (se_var 0) sa_nil)) (se_call H__law_sort cx.tk cx.rm (sa_cons (se_var 1) sa_nil)))) (ss_one (ss_ret se_bl)) ss_nil)
    (ss_cons (ss_if (SW.st (sw_and (st_cmp (sc_op op_gt ds_gt (se_call H__law_sort cx.tk cx.rm (sa_cons (se_var 0) sa_nil)) se_int)) (sw_and1 (st_cmp (sc_op op_lt ds_lt (se_call H__law_sort cx.tk cx.rm (sa_cons (se_var 0) sa_nil)) se_int))))) (ss_cons (ss_if (st_cmp (sc_op (op_neD cx.rm.units) ds_ne (se_bf call_len b_len T.z_len (se_var 0)) (se_bf call_len b_len T.z_len (se_var 1)))) (ss_one (ss_ret se_bl)) ss_nil)
    (ss_one (ss_ret (se_cmp (sc_op (op_eqD cx.rm.units) ds_eq (NEx.fz (ne_lcE (own := [("k", 2), ("part", 3)]) cx.calm cx.nd (si_enum T.z_enumerate (se_var 0)) (blkOk_by (by kernel_rfl)) (fun s1 H1 C1 cl1 fp1 => (tg_tup (CxOk.blk cx s1 H1 _ _ fp1).calm (tgs_cons 2 (CxOk.blk cx s1 H1 _ _ fp1).nd (tgs_cons 3 (CxOk.blk cx s1 H1 _ _ fp1).nd tgs_nil)))) (fun s1 H1 C1 cl1 fp1 => (sts_one (st_not (st_val (se_call H__law_same (CxOk.blk cx s1 H1 _ _ fp1).tk (CxOk.blk cx s1 H1 _ _ fp1).rm (sa_cons (se_var 3) (sa_cons (se_ix (se_var 1) (se_var 2)) sa_nil))))))) (fun s1 H1 C1 cl1 fp1 => (se_var 2)))) (NEx.fz (ne_lst sa_nil))))))) ss_nil)
    (ss_one (ss_ret (se_cmp (sc_op (op_eqD cx.rm.units) ds_eq (se_var 0) (se_var 1)))))))
theorem ok_is_from {fa : Addr} {fd : FuncData} (F : L2.Fun K.K "is_from" "is_from" (top 26) fa fd) (T : Txt K)  : FnOk P w K.K K.mg base (L2N.CX P w) 1 fa fd ["value", "low", "high"] (spF K 3 F_is_from) := by
  have S : FnScope ["value", "low", "high"] ["value", "low", "high"] (defScope (top 26)) := ⟨rfl, rfl, rfl, by decide +kernel, rfl, by decide +kernel, by decide +kernel⟩
  refine fn_ok (N := ["value", "low", "high"]) (ps := ["value", "low", "high"]) (n := 3) (k := 0) (s := s_is_from) F S rfl fun X W cdv A outer sh H hX cx hp => ?_
  subst hX
  exact (ss_one (ss_ret (se_and (se_isiP T.z_isinstance T.z_int (se_var 0)) (se_and (se_not (se_isiP T.z_isinstance T.z_bool (se_var 0))) (se_one (se_chain op_le ds_le op_le ds_le (se_var 1) (se_var 0) (se_var 2)))))))
theorem ok_is_rule_of {fa : Addr} {fd : FuncData} (F : L2.Fun K.K "is_rule_of" "is_rule_of" (top 29) fa fd) (T : Txt K) (H_is_from : FnS P w K base 1 "is_from" 3 F_is_from) : FnOk P w K.K K.mg base (L2N.CX P w) 2 fa fd ["value"] (spF K 1 F_is_rule_of) := by
  have S : FnScope ["value", "ahead", "behind", "own", "least", "ties"] ["value"] (defScope (top 29)) := ⟨rfl, rfl, rfl, by decide +kernel, rfl, by decide +kernel, by decide +kernel⟩
  refine fn_ok (N := ["value", "ahead", "behind", "own", "least", "ties"]) (ps := ["value"]) (n := 1) (k := 1) (s := s_is_rule_of) F S rfl fun X W cdv A outer sh H hX cx hp => ?_
  subst hX
  exact (ss_cons (ss_if (SW.st (sw_or (st_not (st_val (se_isiP T.z_isinstance T.z_tuple (se_var 0)))) (sw_or1 (st_cmp (sc_op (op_neD cx.rm.units) ds_ne (se_bf call_len b_len T.z_len (se_var 0)) se_int))))) (ss_one (ss_ret se_bl)) ss_nil)
    (ss_cons (ss_asg (tg_tup cx.calm (tgs_cons 1 cx.nd (tgs_cons 2 cx.nd (tgs_cons 3 cx.nd (tgs_cons 4 cx.nd (tgs_cons 5 cx.nd tgs_nil)))))) (se_var 0))
    (ss_cons (ss_if (SW.st (sw_or (st_not (st_val (se_call H_is_from cx.tk cx.rm (sa_cons (se_var 1) (sa_cons se_int (sa_cons se_int sa_nil)))))) (sw_or (st_not (st_val (se_call H_is_from cx.tk cx.rm (sa_cons (se_var 2) (sa_cons se_int (sa_cons se_int sa_nil)))))) (sw_or (st_not (st_val (se_call H_is_from cx.tk cx.rm (sa_cons (se_var 3) (sa_cons se_int (sa_cons se_int sa_nil)))))) (sw_or1 (st_not (st_val (se_call H_is_from cx.tk cx.rm (sa_cons (se_var 4) (sa_cons se_int (sa_cons se_int sa_nil))))))))))) (ss_one (ss_ret se_bl)) ss_nil)
    (ss_one (ss_ret (se_and (se_isiP T.z_isinstance T.z_str (se_var 5)) (se_one (se_cmp (sc_op op_inD ds_in (se_var 5) (se_globE T.c_TIES))))))))))
theorem ok_need_rule {fa : Addr} {fd : FuncData} (F : L2.Fun K.K "need_rule" "need_rule" (top 32) fa fd) (T : Txt K) (H_is_rule_of : FnS P w K base 2 "is_rule_of" 1 F_is_rule_of) : FnOk P w K.K K.mg base (L2N.CX P w) 3 fa fd ["value"] (spF K 1 F_need_rule) := by
  have S : FnScope ["value"] ["value"] (defScope (top 32)) := ⟨rfl, rfl, rfl, by decide +kernel, rfl, by decide +kernel, by decide +kernel⟩
  refine fn_ok (N := ["value"]) (ps := ["value"]) (n := 1) (k := 2) (s := s_need_rule) F S rfl fun X W cdv A outer sh H hX cx hp => ?_
  subst hX
  exact (ss_one (ss_if (st_not (st_val (se_call H_is_rule_of cx.tk cx.rm (sa_cons (se_var 0) sa_nil)))) (ss_one ss_no) ss_nil))
theorem ok_is_sign {fa : Addr} {fd : FuncData} (F : L2.Fun K.K "is_sign" "is_sign" (top 27) fa fd) (T : Txt K)  : FnOk P w K.K K.mg base (L2N.CX P w) 1 fa fd ["value"] (spF K 1 F_is_sign) := by
  have S : FnScope ["value"] ["value"] (defScope (top 27)) := ⟨rfl, rfl, rfl, by decide +kernel, rfl, by decide +kernel, by decide +kernel⟩
  refine fn_ok (N := ["value"]) (ps := ["value"]) (n := 1) (k := 0) (s := s_is_sign) F S rfl fun X W cdv A outer sh H hX cx hp => ?_
  subst hX
  exact (ss_one (ss_ret (se_and (se_isiP T.z_isinstance T.z_str (se_var 0)) (se_and (se_cmp (sc_op (op_eqD cx.rm.units) ds_eq (se_bf call_len b_len T.z_len (se_var 0)) se_int)) (se_one (se_cmp (sc_op op_inD ds_in (se_var 0) (se_globE T.c_SIGNS))))))))
theorem ok_is_anchor_of {fa : Addr} {fd : FuncData} (F : L2.Fun K.K "is_anchor_of" "is_anchor_of" (top 42) fa fd) (T : Txt K) (H_is_from : FnS P w K base 1 "is_from" 3 F_is_from) (H_is_sign : FnS P w K base 1 "is_sign" 1 F_is_sign) : FnOk P w K.K K.mg base (L2N.CX P w) 2 fa fd ["rule", "value"] (spF K 2 F_is_anchor_of) := by
  have S : FnScope ["rule", "value", "before", "after", "sign"] ["rule", "value"] (defScope (top 42)) := ⟨rfl, rfl, rfl, by decide +kernel, rfl, by decide +kernel, by decide +kernel⟩
  refine fn_ok (N := ["rule", "value", "before", "after", "sign"]) (ps := ["rule", "value"]) (n := 2) (k := 1) (s := s_is_anchor_of) F S rfl fun X W cdv A outer sh H hX cx hp => ?_
  subst hX
  exact (ss_cons (ss_if (SW.st (sw_or (st_not (st_val (se_isiP T.z_isinstance T.z_tuple (se_var 1)))) (sw_or (st_cmp (sc_op (op_neD cx.rm.units) ds_ne (se_bf call_len b_len T.z_len (se_var 1)) se_int)) (sw_or (st_not (st_val (se_call H_is_from cx.tk cx.rm (sa_cons (se_ix (se_var 1) se_int) (sa_cons se_int (sa_cons se_int sa_nil)))))) (sw_or1 (st_not (st_val (se_call H_is_sign cx.tk cx.rm (sa_cons (se_ix (se_var 1) se_int) sa_nil))))))))) (ss_one (ss_ret se_bl)) ss_nil)
    (ss_cons (by first
      | exact ss_par2 2 3 cx.calm cx.nd (sa_cons (se_ix (se_var 1) se_int) (sa_cons (se_ix (se_var 1) se_int) sa_nil)) (by rfl)
      | exact ss_parT (hw := by first | rfl | kernel_rfl) cx.calm (sa_cons (se_ix (se_var 1) se_int) (sa_cons (se_ix (se_var 1) se_int) sa_nil)) (tp_cons 2 cx.nd (tp_cons 3 cx.nd tp_nil)))
    (ss_cons (ss_if (SW.st (sw_or (st_not (st_val (se_isiP T.z_isinstance T.z_str (se_var 2)))) (sw_or1 (st_not (st_val (se_isiP T.z_isinstance T.z_str (se_var 3))))))) (ss_one (ss_ret se_bl)) ss_nil)
    (ss_cons (ss_if (SW.st (sw_or (st_cmp (sc_op (op_neD cx.rm.units) ds_ne (se_bf call_len b_len T.z_len (se_var 2)) (se_ix (se_var 0) se_int))) (sw_or1 (st_cmp (sc_op (op_neD cx.rm.units) ds_ne (se_bf call_len b_len T.z_len (se_var 3)) (se_ix (se_var 0) se_int)))))) (ss_one (ss_ret se_bl)) ss_nil)
    (ss_one (ss_ret (se_bf (cr_all cx.calm) b_all T.z_all (NEx.fz (ne_lcE (own := [("sign", 4)]) cx.calm cx.nd (si_val (se_bin op_addD ds_add (se_lstrip (se_var 2) (se_str ['^'])) (se_rstrip (se_var 3) (se_str ['$'])))) (blkOk_by (by kernel_rfl)) (fun s1 H1 C1 cl1 fp1 => (tg_name 4 (CxOk.blk cx s1 H1 _ _ fp1).nd)) (fun s1 H1 C1 cl1 fp1 => sts_nil) (fun s1 H1 C1 cl1 fp1 => (se_cmp (sc_op op_inD ds_in (se_var 4) (se_globE T.c_SIGNS)))))))))))))
theorem ok_need_anchor {fa : Addr} {fd : FuncData} (F : L2.Fun K.K "need_anchor" "need_anchor" (top 43) fa fd) (T : Txt K) (H_is_anchor_of : FnS P w K base 2 "is_anchor_of" 2 F_is_anchor_of) : FnOk P w K.K K.mg base (L2N.CX P w) 3 fa fd ["rule", "value"] (spF K 2 F_need_anchor) := by
  have S : FnScope ["rule", "value"] ["rule", "value"] (defScope (top 43)) := ⟨rfl, rfl, rfl, by decide +kernel, rfl, by decide +kernel, by decide +kernel⟩
  refine fn_ok (N := ["rule", "value"]) (ps := ["rule", "value"]) (n := 2) (k := 2) (s := s_need_anchor) F S rfl fun X W cdv A outer sh H hX cx hp => ?_
  subst hX
  exact (ss_one (ss_if (st_not (st_val (se_call H_is_anchor_of cx.tk cx.rm (sa_cons (se_var 0) (sa_cons (se_var 1) sa_nil))))) (ss_one (T.x_InvalidAnchor.elim fun _ E => ss_raise "InvalidAnchor" E cx.calm cx.tk)) ss_nil))
theorem ok_is_text_of {fa : Addr} {fd : FuncData} (F : L2.Fun K.K "is_text_of" "is_text_of" (top 28) fa fd) (T : Txt K)  : FnOk P w K.K K.mg base (L2N.CX P w) 1 fa fd ["value"] (spF K 1 F_is_text_of) := by
  have S : FnScope ["value", "sign"] ["value"] (defScope (top 28)) := ⟨rfl, rfl, rfl, by decide +kernel, rfl, by decide +kernel, by decide +kernel⟩
  refine fn_ok (N := ["value", "sign"]) (ps := ["value"]) (n := 1) (k := 0) (s := s_is_text_of) F S rfl fun X W cdv A outer sh H hX cx hp => ?_
  subst hX
  exact (ss_one (ss_ret (se_and (se_isiP T.z_isinstance T.z_str (se_var 0)) (se_and (se_cmp (sc_op op_le ds_le (se_bf call_len b_len T.z_len (se_var 0)) (se_globE T.c_MOST_LINES))) (se_one (se_bf (cr_all cx.calm) b_all T.z_all (NEx.fz (ne_lcE (own := [("sign", 1)]) cx.calm cx.nd (si_val (se_var 0)) (blkOk_by (by kernel_rfl)) (fun s1 H1 C1 cl1 fp1 => (tg_name 1 (CxOk.blk cx s1 H1 _ _ fp1).nd)) (fun s1 H1 C1 cl1 fp1 => sts_nil) (fun s1 H1 C1 cl1 fp1 => (se_cmp (sc_op op_inD ds_in (se_var 1) (se_globE T.c_SIGNS))))))))))))
theorem ok_need_text {fa : Addr} {fd : FuncData} (F : L2.Fun K.K "need_text" "need_text" (top 30) fa fd) (T : Txt K) (H_is_text_of : FnS P w K base 1 "is_text_of" 1 F_is_text_of) : FnOk P w K.K K.mg base (L2N.CX P w) 2 fa fd ["value"] (spF K 1 F_need_text) := by
  have S : FnScope ["value"] ["value"] (defScope (top 30)) := ⟨rfl, rfl, rfl, by decide +kernel, rfl, by decide +kernel, by decide +kernel⟩
  refine fn_ok (N := ["value"]) (ps := ["value"]) (n := 1) (k := 1) (s := s_need_text) F S rfl fun X W cdv A outer sh H hX cx hp => ?_
  subst hX
  exact (ss_one (ss_if (st_not (st_val (se_call H_is_text_of cx.tk cx.rm (sa_cons (se_var 0) sa_nil)))) (ss_one ss_no) ss_nil))
theorem ok_need_line {fa : Addr} {fd : FuncData} (F : L2.Fun K.K "need_line" "need_line" (top 31) fa fd) (T : Txt K) (H_is_from : FnS P w K base 1 "is_from" 3 F_is_from) : FnOk P w K.K K.mg base (L2N.CX P w) 2 fa fd ["text", "value"] (spF K 2 F_need_line) := by
  have S : FnScope ["text", "value"] ["text", "value"] (defScope (top 31)) := ⟨rfl, rfl, rfl, by decide +kernel, rfl, by decide +kernel, by decide +kernel⟩
  refine fn_ok (N := ["text", "value"]) (ps := ["text", "value"]) (n := 2) (k := 1) (s := s_need_line) F S rfl fun X W cdv A outer sh H hX cx hp => ?_
  subst hX
  exact (ss_one (ss_if (st_not (st_val (se_call H_is_from cx.tk cx.rm (sa_cons (se_var 1) (sa_cons se_int (sa_cons (se_bin op_sub ds_sub (se_bf call_len b_len T.z_len (se_var 0)) se_int) sa_nil)))))) (ss_one ss_no) ss_nil))
theorem ok_sign_at {fa : Addr} {fd : FuncData} (F : L2.Fun K.K "sign_at" "sign_at" (top 35) fa fd) (T : Txt K)  : FnOk P w K.K K.mg base (L2N.CX P w) 1 fa fd ["text", "place"] (spF K 2 F_sign_at) := by
  have S : FnScope ["text", "place"] ["text", "place"] (defScope (top 35)) := ⟨rfl, rfl, rfl, by decide +kernel, rfl, by decide +kernel, by decide +kernel⟩
  refine fn_ok (N := ["text", "place"]) (ps := ["text", "place"]) (n := 2) (k := 0) (s := s_sign_at) F S rfl fun X W cdv A outer sh H hX cx hp => ?_
  subst hX
  exact (ss_cons (ss_if (st_cmp (sc_op op_lt ds_lt (se_var 1) se_int)) (ss_one (ss_ret (se_str ['^']))) ss_nil)
    (ss_one (ss_ret (se_if (st_cmp (sc_op op_lt ds_lt (se_var 1) (se_bf call_len b_len T.z_len (se_var 0)))) (se_ix (se_var 0) (se_var 1)) (se_str ['$'])))))
theorem ok_around {fa : Addr} {fd : FuncData} (F : L2.Fun K.K "around" "around" (top 36) fa fd) (T : Txt K) (H_sign_at : FnS P w K base 1 "sign_at" 2 F_sign_at) : FnOk P w K.K K.mg base (L2N.CX P w) 2 fa fd ["rule", "text", "place"] (spF K 3 F_around) := by
  have S : FnScope ["rule", "text", "place", "before", "spot"] ["rule", "text", "place"] (defScope (top 36)) := ⟨rfl, rfl, rfl, by decide +kernel, rfl, by decide +kernel, by decide +kernel⟩
  refine fn_ok (N := ["rule", "text", "place", "before", "spot"]) (ps := ["rule", "text", "place"]) (n := 3) (k := 1) (s := s_around) F S rfl fun X W cdv A outer sh H hX cx hp => ?_
  subst hX
  exact (ss_cons (ss_asg (tg_name 3 cx.nd) (se_join (se_str []) (NEx.fz (ne_lcE (own := [("spot", 4)]) cx.calm cx.nd (si_range2 T.z_range (se_bin op_sub ds_sub (se_var 2) (se_ix (se_var 0) se_int)) (se_var 2)) (blkOk_by (by kernel_rfl)) (fun s1 H1 C1 cl1 fp1 => (tg_name 4 (CxOk.blk cx s1 H1 _ _ fp1).nd)) (fun s1 H1 C1 cl1 fp1 => sts_nil) (fun s1 H1 C1 cl1 fp1 => (se_call H_sign_at (CxOk.blk cx s1 H1 _ _ fp1).tk (CxOk.blk cx s1 H1 _ _ fp1).rm (sa_cons (se_var 1) (sa_cons (se_var 4) sa_nil))))))))
    (ss_one (ss_ret (se_tup (sa_cons (se_var 3) (sa_cons (se_join (se_str []) (NEx.fz (ne_lcE (own := [("spot", 4)]) cx.calm cx.nd (si_range2 T.z_range (se_bin op_addD ds_add (se_var 2) se_int) (se_bin op_addD ds_add (se_bin op_addD ds_add (se_var 2) se_int) (se_ix (se_var 0) se_int))) (blkOk_by (by kernel_rfl)) (fun s2 H2 C2 cl2 fp2 => (tg_name 4 (CxOk.blk cx s2 H2 _ _ fp2).nd)) (fun s2 H2 C2 cl2 fp2 => sts_nil) (fun s2 H2 C2 cl2 fp2 => (se_call H_sign_at (CxOk.blk cx s2 H2 _ _ fp2).tk (CxOk.blk cx s2 H2 _ _ fp2).rm (sa_cons (se_var 1) (sa_cons (se_var 4) sa_nil))))))) sa_nil))))))
theorem ok_anchor_of {fa : Addr} {fd : FuncData} (F : L2.Fun K.K "anchor_of" "anchor_of" (top 37) fa fd) (T : Txt K) (H_around : FnS P w K base 2 "around" 3 F_around) : FnOk P w K.K K.mg base (L2N.CX P w) 3 fa fd ["rule", "text", "line"] (spF K 3 F_anchor_of) := by
  have S : FnScope ["rule", "text", "line", "before", "after"] ["rule", "text", "line"] (defScope (top 37)) := ⟨rfl, rfl, rfl, by decide +kernel, rfl, by decide +kernel, by decide +kernel⟩
  refine fn_ok (N := ["rule", "text", "line", "before", "after"]) (ps := ["rule", "text", "line"]) (n := 3) (k := 2) (s := s_anchor_of) F S rfl fun X W cdv A outer sh H hX cx hp => ?_
  subst hX
  exact (ss_cons (ss_asg (tg_tup cx.calm (tgs_cons 3 cx.nd (tgs_cons 4 cx.nd tgs_nil))) (se_call H_around cx.tk cx.rm (sa_cons (se_var 0) (sa_cons (se_var 1) (sa_cons (se_var 2) sa_nil)))))
    (ss_one (ss_ret (se_tup (sa_cons (se_var 2) (sa_cons (se_var 3) (sa_cons (se_ix (se_var 1) (se_var 2)) (sa_cons (se_var 4) sa_nil))))))))
theorem ok_anchor {fa : Addr} {fd : FuncData} (F : L2.Fun K.K "anchor" "anchor" (top 44) fa fd) (T : Txt K) (H_need_rule : FnS P w K base 3 "need_rule" 1 F_need_rule) (H_need_text : FnS P w K base 3 "need_text" 1 F_need_text) (H_need_line : FnS P w K base 3 "need_line" 2 F_need_line) (H_anchor_of : FnS P w K base 3 "anchor_of" 3 F_anchor_of) : FnOk P w K.K K.mg base (L2N.CX P w) 4 fa fd ["rule", "text", "line"] (spF K 3 F_anchor) := by
  have S : FnScope ["rule", "text", "line"] ["rule", "text", "line"] (defScope (top 44)) := ⟨rfl, rfl, rfl, by decide +kernel, rfl, by decide +kernel, by decide +kernel⟩
  refine fn_ok (N := ["rule", "text", "line"]) (ps := ["rule", "text", "line"]) (n := 3) (k := 3) (s := s_anchor) F S rfl fun X W cdv A outer sh H hX cx hp => ?_
  subst hX
  exact (ss_cons (ss_expr (se_call H_need_rule cx.tk cx.rm (sa_cons (se_var 0) sa_nil)))
    (ss_cons (ss_expr (se_call H_need_text cx.tk cx.rm (sa_cons (se_var 1) sa_nil)))
    (ss_cons (ss_expr (se_call H_need_line cx.tk cx.rm (sa_cons (se_var 1) (sa_cons (se_var 2) sa_nil))))
    (ss_one (ss_ret (se_call H_anchor_of cx.tk cx.rm (sa_cons (se_var 0) (sa_cons (se_var 1) (sa_cons (se_var 2) sa_nil)))))))))
theorem ok_score_at {fa : Addr} {fd : FuncData} (F : L2.Fun K.K "score_at" "score_at" (top 38) fa fd) (T : Txt K) (H_around : FnS P w K base 2 "around" 3 F_around) : FnOk P w K.K K.mg base (L2N.CX P w) 3 fa fd ["rule", "anchor", "text", "place"] (spF K 4 F_score_at) := by
  have S : FnScope ["rule", "anchor", "text", "place", "before", "after", "agree", "one", "other"] ["rule", "anchor", "text", "place"] (defScope (top 38)) := ⟨rfl, rfl, rfl, by decide +kernel, rfl, by decide +kernel, by decide +kernel⟩
  refine fn_ok (N := ["rule", "anchor", "text", "place", "before", "after", "agree", "one", "other"]) (ps := ["rule", "anchor", "text", "place"]) (n := 4) (k := 2) (s := s_score_at) F S rfl fun X W cdv A outer sh H hX cx hp => ?_
  subst hX
  exact (ss_cons (ss_asg (tg_tup cx.calm (tgs_cons 4 cx.nd (tgs_cons 5 cx.nd tgs_nil))) (se_call H_around cx.tk cx.rm (sa_cons (se_var 0) (sa_cons (se_var 2) (sa_cons (se_var 3) sa_nil)))))
    (ss_cons (ss_asg (tg_name 6 cx.nd) (se_bf call_len b_len T.z_len (NEx.fz (ne_lcE (own := [("one", 7), ("other", 8)]) cx.calm cx.nd (si_zip T.z_zip (se_bin op_addD ds_add (se_ix (se_var 1) se_int) (se_ix (se_var 1) se_int)) (se_bin op_addD ds_add (se_var 4) (se_var 5))) (blkOk_by (by kernel_rfl)) (fun s1 H1 C1 cl1 fp1 => (tg_tup (CxOk.blk cx s1 H1 _ _ fp1).calm (tgs_cons 7 (CxOk.blk cx s1 H1 _ _ fp1).nd (tgs_cons 8 (CxOk.blk cx s1 H1 _ _ fp1).nd tgs_nil)))) (fun s1 H1 C1 cl1 fp1 => (sts_one (st_cmp (sc_op (op_eqD (CxOk.blk cx s1 H1 _ _ fp1).rm.units) ds_eq (se_var 7) (se_var 8))))) (fun s1 H1 C1 cl1 fp1 => se_int)))))
    (ss_one (ss_ret (se_bin op_addD ds_add (se_var 6) (se_if (st_cmp (sc_op (op_eqD cx.rm.units) ds_eq (se_ix (se_var 2) (se_var 3)) (se_ix (se_var 1) se_int))) (se_ix (se_var 0) se_int) se_int))))))
theorem ok_scores_at {fa : Addr} {fd : FuncData} (F : L2.Fun K.K "scores_at" "scores_at" (top 39) fa fd) (T : Txt K) (H_score_at : FnS P w K base 3 "score_at" 4 F_score_at) : FnOk P w K.K K.mg base (L2N.CX P w) 4 fa fd ["rule", "anchor", "text"] (spF K 3 F_scores_at) := by
  have S : FnScope ["rule", "anchor", "text", "place"] ["rule", "anchor", "text"] (defScope (top 39)) := ⟨rfl, rfl, rfl, by decide +kernel, rfl, by decide +kernel, by decide +kernel⟩
  refine fn_ok (N := ["rule", "anchor", "text", "place"]) (ps := ["rule", "anchor", "text"]) (n := 3) (k := 3) (s := s_scores_at) F S rfl fun X W cdv A outer sh H hX cx hp => ?_
  subst hX
  exact (ss_one (ss_ret (NEx.fz (ne_lcE (own := [("place", 3)]) cx.calm cx.nd (si_range1 T.z_range (se_bf call_len b_len T.z_len (se_var 2))) (blkOk_by (by kernel_rfl)) (fun s1 H1 C1 cl1 fp1 => (tg_name 3 (CxOk.blk cx s1 H1 _ _ fp1).nd)) (fun s1 H1 C1 cl1 fp1 => sts_nil) (fun s1 H1 C1 cl1 fp1 => (se_call H_score_at (CxOk.blk cx s1 H1 _ _ fp1).tk (CxOk.blk cx s1 H1 _ _ fp1).rm (sa_cons (se_var 0) (sa_cons (se_var 1) (sa_cons (se_var 2) (sa_cons (se_var 3) sa_nil))))))))))
theorem ok_scores {fa : Addr} {fd : FuncData} (F : L2.Fun K.K "scores" "scores" (top 45) fa fd) (T : Txt K) (H_need_rule : FnS P w K base 4 "need_rule" 1 F_need_rule) (H_need_anchor : FnS P w K base 4 "need_anchor" 2 F_need_anchor) (H_need_text : FnS P w K base 4 "need_text" 1 F_need_text) (H_scores_at : FnS P w K base 4 "scores_at" 3 F_scores_at) : FnOk P w K.K K.mg base (L2N.CX P w) 5 fa fd ["rule", "anchor", "text"] (spF K 3 F_scores) := by
  have S : FnScope ["rule", "anchor", "text"] ["rule", "anchor", "text"] (defScope (top 45)) := ⟨rfl, rfl, rfl, by decide +kernel, rfl, by decide +kernel, by decide +kernel⟩
  refine fn_ok (N := ["rule", "anchor", "text"]) (ps := ["rule", "anchor", "text"]) (n := 3) (k := 4) (s := s_scores) F S rfl fun X W cdv A outer sh H hX cx hp => ?_
  subst hX
  exact (ss_cons (ss_expr (se_call H_need_rule cx.tk cx.rm (sa_cons (se_var 0) sa_nil)))
    (ss_cons (ss_expr (se_call H_need_anchor cx.tk cx.rm (sa_cons (se_var 0) (sa_cons (se_var 1) sa_nil))))
    (ss_cons (ss_expr (se_call H_need_text cx.tk cx.rm (sa_cons (se_var 2) sa_nil)))
    (ss_one (ss_ret (se_call H_scores_at cx.tk cx.rm (sa_cons (se_var 0) (sa_cons (se_var 1) (sa_cons (se_var 2) sa_nil)))))))))
theorem ok_best_place {fa : Addr} {fd : FuncData} (F : L2.Fun K.K "best_place" "best_place" (top 40) fa fd) (T : Txt K)  : FnOk P w K.K K.mg base (L2N.CX P w) 1 fa fd ["scores", "least", "ties"] (spF K 3 F_best_place) := by
  have S : FnScope ["scores", "least", "ties", "best", "place", "score"] ["scores", "least", "ties"] (defScope (top 40)) := ⟨rfl, rfl, rfl, by decide +kernel, rfl, by decide +kernel, by decide +kernel⟩
  refine fn_ok (N := ["scores", "least", "ties", "best", "place", "score"]) (ps := ["scores", "least", "ties"]) (n := 3) (k := 0) (s := s_best_place) F S rfl fun X W cdv A outer sh H hX cx hp => ?_
  subst hX
  exact (ss_cons (ss_if (SW.st (sw_or (st_cmp (sc_op (op_eqD cx.rm.units) ds_eq (se_var 0) (NEx.fz (ne_lst sa_nil)))) (sw_or1 (st_cmp (sc_op op_lt ds_lt (se_bf (cr_max cx.calm) b_max T.z_max (se_var 0)) (se_var 1)))))) (ss_one (ss_ret (se_un un_neg ds_neg se_int))) ss_nil)
    (ss_cons (by first
      | exact ss_asgLc (i := 3) (own := [("place", 4), ("score", 5)]) cx.calm cx.nd (si_enum T.z_enumerate (se_var 0)) (blkOk_by (by kernel_rfl)) (fun s2 H2 C2 cl2 fp2 => (tg_tup (CxOk.blk cx s2 H2 _ _ fp2).calm (tgs_cons 4 (CxOk.blk cx s2 H2 _ _ fp2).nd (tgs_cons 5 (CxOk.blk cx s2 H2 _ _ fp2).nd tgs_nil)))) (fun s2 H2 C2 cl2 fp2 => (sts_one (st_cmp (sc_op (op_eqD (CxOk.blk cx s2 H2 _ _ fp2).rm.units) ds_eq (se_var 5) (se_bf (cr_max (CxOk.blk cx s2 H2 _ _ fp2).calm) b_max T.z_max (se_var 0)))))) (fun s2 H2 C2 cl2 fp2 => (se_var 4)) (sw_true rfl rfl rfl (by decide +kernel))
      | exact ss_asg (tg_name 3 cx.nd) (NEx.fz (ne_lcE (own := [("place", 4), ("score", 5)]) cx.calm cx.nd (si_enum T.z_enumerate (se_var 0)) (blkOk_by (by kernel_rfl)) (fun s1 H1 C1 cl1 fp1 => (tg_tup (CxOk.blk cx s1 H1 _ _ fp1).calm (tgs_cons 4 (CxOk.blk cx s1 H1 _ _ fp1).nd (tgs_cons 5 (CxOk.blk cx s1 H1 _ _ fp1).nd tgs_nil)))) (fun s1 H1 C1 cl1 fp1 => (sts_one (st_cmp (sc_op (op_eqD (CxOk.blk cx s1 H1 _ _ fp1).rm.units) ds_eq (se_var 5) (se_bf (cr_max (CxOk.blk cx s1 H1 _ _ fp1).calm) b_max T.z_max (se_var 0)))))) (fun s1 H1 C1 cl1 fp1 => (se_var 4)))))
    (ss_one (ss_ret (se_if (st_cmp (sc_op (op_eqD cx.rm.units) ds_eq (se_var 2) (se_str k_first))) (se_ix (se_var 3) se_int) (se_ix (se_var 3) (se_un un_neg ds_neg se_int)))))))
theorem ok_found_at {fa : Addr} {fd : FuncData} (F : L2.Fun K.K "found_at" "found_at" (top 41) fa fd) (T : Txt K) (H_scores_at : FnS P w K base 4 "scores_at" 3 F_scores_at) (H_best_place : FnS P w K base 4 "best_place" 3 F_best_place) : FnOk P w K.K K.mg base (L2N.CX P w) 5 fa fd ["rule", "anchor", "text"] (spF K 3 F_found_at) := by
  have S : FnScope ["rule", "anchor", "text"] ["rule", "anchor", "text"] (defScope (top 41)) := ⟨rfl, rfl, rfl, by decide +kernel, rfl, by decide +kernel, by decide +kernel⟩
  refine fn_ok (N := ["rule", "anchor", "text"]) (ps := ["rule", "anchor", "text"]) (n := 3) (k := 4) (s := s_found_at) F S rfl fun X W cdv A outer sh H hX cx hp => ?_
  subst hX
  exact (ss_one (ss_ret (se_call H_best_place cx.tk cx.rm (sa_cons (se_call H_scores_at cx.tk cx.rm (sa_cons (se_var 0) (sa_cons (se_var 1) (sa_cons (se_var 2) sa_nil)))) (sa_cons (se_ix (se_var 0) se_int) (sa_cons (se_ix (se_var 0) se_int) sa_nil))))))
theorem ok_found {fa : Addr} {fd : FuncData} (F : L2.Fun K.K "found" "found" (top 46) fa fd) (T : Txt K) (H_need_rule : FnS P w K base 5 "need_rule" 1 F_need_rule) (H_need_anchor : FnS P w K base 5 "need_anchor" 2 F_need_anchor) (H_need_text : FnS P w K base 5 "need_text" 1 F_need_text) (H_found_at : FnS P w K base 5 "found_at" 3 F_found_at) : FnOk P w K.K K.mg base (L2N.CX P w) 6 fa fd ["rule", "anchor", "text"] (spF K 3 F_found) := by
  have S : FnScope ["rule", "anchor", "text"] ["rule", "anchor", "text"] (defScope (top 46)) := ⟨rfl, rfl, rfl, by decide +kernel, rfl, by decide +kernel, by decide +kernel⟩
  refine fn_ok (N := ["rule", "anchor", "text"]) (ps := ["rule", "anchor", "text"]) (n := 3) (k := 5) (s := s_found) F S rfl fun X W cdv A outer sh H hX cx hp => ?_
  subst hX
  exact (ss_cons (ss_expr (se_call H_need_rule cx.tk cx.rm (sa_cons (se_var 0) sa_nil)))
    (ss_cons (ss_expr (se_call H_need_anchor cx.tk cx.rm (sa_cons (se_var 0) (sa_cons (se_var 1) sa_nil))))
    (ss_cons (ss_expr (se_call H_need_text cx.tk cx.rm (sa_cons (se_var 2) sa_nil)))
    (ss_one (ss_ret (se_call H_found_at cx.tk cx.rm (sa_cons (se_var 0) (sa_cons (se_var 1) (sa_cons (se_var 2) sa_nil)))))))))
theorem ok__law_bool {fa : Addr} {fd : FuncData} (F : L2.Fun K.K "_law_bool" "_law_bool" (top 52) fa fd) (T : Txt K)  : FnOk P w K.K K.mg base (L2N.CX P w) 1 fa fd ["got", "due"] (spF K 2 F__law_bool) := by
  have S : FnScope ["got", "due"] ["got", "due"] (defScope (top 52)) := ⟨rfl, rfl, rfl, by decide +kernel, rfl, by decide +kernel, by decide +kernel⟩
  refine fn_ok (N := ["got", "due"]) (ps := ["got", "due"]) (n := 2) (k := 0) (s := s__law_bool) F S rfl fun X W cdv A outer sh H hX cx hp => ?_
  subst hX
  exact (ss_one (ss_ret (se_and (se_isiP T.z_isinstance T.z_bool (se_var 0)) (se_one (se_cmp (sc_op (op_eqD cx.rm.units) ds_eq (se_var 0) (se_var 1)))))))
theorem ok__law_walked {fa : Addr} {fd : FuncData} (F : L2.Fun K.K "_law_walked" "_law_walked" (top 57) fa fd) (T : Txt K)  : FnOk P w K.K K.mg base (L2N.CX P w) 1 fa fd ["text", "row"] (spF K 2 F__law_walked) := by
  have S : FnScope ["text", "row", "later", "ends", "edits", "step", "line"] ["text", "row"] (defScope (top 57)) := ⟨rfl, rfl, rfl, by decide +kernel, rfl, by decide +kernel, by decide +kernel⟩
  refine fn_ok (N := ["text", "row", "later", "ends", "edits", "step", "line"]) (ps := ["text", "row"]) (n := 2) (k := 0) (s := s__law_walked) F S rfl fun X W cdv A outer sh H hX cx hp => ?_
  subst hX
  exact (ss_cons (by first
      | exact ss_par3 2 3 4 cx.calm cx.nd (sa_cons (se_str []) (sa_cons (NEx.nw (ne_lst sa_nil)) (sa_cons se_int sa_nil))) (by rfl)
      | exact ss_parT (hw := by first | rfl | kernel_rfl) cx.calm (sa_cons (se_str []) (sa_cons (NEx.nw (ne_lst sa_nil)) (sa_cons se_int sa_nil))) (tp_cons 2 cx.nd (tp_cons 3 cx.nd (tp_cons 4 cx.nd tp_nil))))
    (ss_cons (ss_for hp cx.calm (si_val (se_var 1)) (tg_name 5 cx.nd) (ss_cons (ss_asg (tg_name 6 cx.nd) (se_bf call_len b_len T.z_len (se_var 3)))
    (ss_cons (ss_if (st_cmp (sc_op (op_neD cx.rm.units) ds_ne (se_var 5) (se_str ['=']))) (ss_one (ss_asg (tg_name 4 cx.nd) (se_bin op_addD ds_add (se_var 4) se_int))) ss_nil)
    (ss_one (ss_if (st_cmp (sc_op (op_eqD cx.rm.units) ds_eq (se_var 5) (se_str ['-']))) (ss_one (ss_app (se_var 3) (se_un un_neg ds_neg se_int))) (ss_one (ss_if (st_cmp (sc_op (op_eqD cx.rm.units) ds_eq (se_ix (se_var 5) se_int) (se_str ['+']))) (ss_one (ss_asg (tg_name 2 cx.nd) (se_bin op_addD ds_add (se_var 2) (se_ix (se_var 5) se_int)))) (ss_cons (ss_app (se_var 3) (se_bf call_len b_len T.z_len (se_var 2)))
    (ss_one (ss_asg (tg_name 2 cx.nd) (se_bin op_addD ds_add (se_var 2) (se_if (st_cmp (sc_op (op_eqD cx.rm.units) ds_eq (se_var 5) (se_str ['=']))) (se_ix (se_var 0) (se_var 6)) (se_ix (se_var 5) se_int)))))))))))))
    (ss_fz 3 (ss_one (ss_ret (se_tup (sa_cons (se_var 2) (sa_cons (se_var 3) (sa_cons (se_var 4) sa_nil)))))))))
theorem ok_is_rule {fa : Addr} {fd : FuncData} (F : L2.Fun K.K "is_rule" "is_rule" (top 34) fa fd) (T : Txt K) (H_is_rule_of : FnS P w K base 2 "is_rule_of" 1 F_is_rule_of) : FnOk P w K.K K.mg base (L2N.CX P w) 3 fa fd ["value"] (spF K 1 F_is_rule) := by
  have S : FnScope ["value"] ["value"] (defScope (top 34)) := ⟨rfl, rfl, rfl, by decide +kernel, rfl, by decide +kernel, by decide +kernel⟩
  refine fn_ok (N := ["value"]) (ps := ["value"]) (n := 1) (k := 2) (s := s_is_rule) F S rfl fun X W cdv A outer sh H hX cx hp => ?_
  subst hX
  exact (ss_one (ss_ret (se_call H_is_rule_of cx.tk cx.rm (sa_cons (se_var 0) sa_nil))))
theorem ok__law_is_rule {fa : Addr} {fd : FuncData} (F : L2.Fun K.K "_law_is_rule" "_law_is_rule" (top 63) fa fd) (T : Txt K)  : FnOk P w K.K K.mg base (L2N.CX P w) 1 fa fd ["value"] (spF K 1 F__law_is_rule) := by
  have S : FnScope ["value", "part"] ["value"] (defScope (top 63)) := ⟨rfl, rfl, rfl, by decide +kernel, rfl, by decide +kernel, by decide +kernel⟩
  refine fn_ok (N := ["value", "part"]) (ps := ["value"]) (n := 1) (k := 0) (s := s__law_is_rule) F S rfl fun X W cdv A outer sh H hX cx hp => ?_
  subst hX
  exact (ss_cons (ss_if (SW.st (sw_or (st_not (st_val (se_isiP T.z_isinstance T.z_tuple (se_var 0)))) (sw_or (st_cmp (sc_op (op_neD cx.rm.units) ds_ne (se_bf call_len b_len T.z_len (se_var 0)) se_int)) (sw_or1 (st_cmp (sc_op (op_neD cx.rm.units) ds_ne (NEx.fz (ne_lcE (own := [("part", 1)]) cx.calm cx.nd (si_val (se_slice (se_var 0) so_none (so_some se_int))) (blkOk_by (by kernel_rfl)) (fun s1 H1 C1 cl1 fp1 => (tg_name 1 (CxOk.blk cx s1 H1 _ _ fp1).nd)) (fun s1 H1 C1 cl1 fp1 => (sts_one (st_not (st_val (se_isiP T.z_isinstance T.z_int (se_var 1)))))) (fun s1 H1 C1 cl1 fp1 => se_int))) (NEx.fz (ne_lst sa_nil)))))))) (ss_one (ss_ret se_bl)) ss_nil)
    (ss_cons (ss_if (SW.st (sw_or (st_cmp (sc_op (op_neD cx.rm.units) ds_ne (NEx.fz (ne_lcE (own := [("part", 1)]) cx.calm cx.nd (si_val (se_slice (se_var 0) so_none (so_some se_int))) (blkOk_by (by kernel_rfl)) (fun s2 H2 C2 cl2 fp2 => (tg_name 1 (CxOk.blk cx s2 H2 _ _ fp2).nd)) (fun s2 H2 C2 cl2 fp2 => (sts_one (st_val (se_isiP T.z_isinstance T.z_bool (se_var 1))))) (fun s2 H2 C2 cl2 fp2 => se_int))) (NEx.fz (ne_lst sa_nil)))) (sw_or1 (st_cmp (sc_op op_notInD ds_notIn (se_ix (se_var 0) se_int) (NEx.fz (ne_lst (sa_cons (se_str k_first) (sa_cons (se_str ['l', 'a', 's', 't']) sa_nil))))))))) (ss_one (ss_ret se_bl)) ss_nil)
    (ss_one (ss_ret (se_and (se_chain op_le ds_le op_le ds_le se_int (se_ix (se_var 0) se_int) se_int) (se_and (se_chain op_le ds_le op_le ds_le se_int (se_ix (se_var 0) se_int) se_int) (se_and (se_chain op_le ds_le op_le ds_le se_int (se_ix (se_var 0) se_int) se_int) (se_one (se_chain op_le ds_le op_le ds_le se_int (se_ix (se_var 0) se_int) se_int)))))))))
theorem ok__law_row {fa : Addr} {fd : FuncData} (F : L2.Fun K.K "_law_row" "_law_row" (top 56) fa fd) (T : Txt K) (H__law_pick : FnS P w K base 1 "_law_pick" 2 F__law_pick) : FnOk P w K.K K.mg base (L2N.CX P w) 2 fa fd ["deck", "text", "signs", "most"] (spF K 4 F__law_row) := by
  have S : FnScope ["deck", "text", "signs", "most", "got", "left", "sign", "way", "put", "bar"] ["deck", "text", "signs", "most"] (defScope (top 56)) := ⟨rfl, rfl, rfl, by decide +kernel, rfl, by decide +kernel, by decide +kernel⟩
  refine fn_ok (N := ["deck", "text", "signs", "most", "got", "left", "sign", "way", "put", "bar"]) (ps := ["deck", "text", "signs", "most"]) (n := 4) (k := 1) (s := s__law_row) F S rfl fun X W cdv A outer sh H hX cx hp => ?_
  subst hX
  exact (ss_cons (by first
      | exact ss_par2 4 5 cx.calm cx.nd (sa_cons (NEx.fz (ne_lst sa_nil)) (sa_cons (se_var 3) sa_nil)) (by rfl)
      | exact ss_parT (hw := by first | rfl | kernel_rfl) cx.calm (sa_cons (NEx.fz (ne_lst sa_nil)) (sa_cons (se_var 3) sa_nil)) (tp_cons 4 cx.nd (tp_cons 5 cx.nd tp_nil)))
    (ss_cons (ss_for hp cx.calm (si_val (se_var 1)) (tg_name 6 cx.nd) (ss_cons (ss_asg (tg_name 7 cx.nd) (se_call H__law_pick cx.tk cx.rm (sa_cons (se_var 0) (sa_cons se_int sa_nil))))
    (ss_cons (ss_asg (tg_name 8 cx.nd) (se_ix (se_var 2) (se_call H__law_pick cx.tk cx.rm (sa_cons (se_var 0) (sa_cons (se_bf call_len b_len T.z_len (se_var 2)) sa_nil)))))
    (ss_cons (ss_asg (tg_name 9 cx.nd) (se_and (se_cmp (sc_op (op_neD cx.rm.units) ds_ne (se_var 4) (NEx.fz (ne_lst sa_nil)))) (se_one (se_cmp (sc_op (op_eqD cx.rm.units) ds_eq (se_ix (se_ix (se_var 4) (se_un un_neg ds_neg se_int)) se_int) (se_str ['+']))))))
    (ss_one (ss_if (SW.st (sw_and (st_cmp (sc_op op_gt ds_gt (se_var 5) se_int)) (sw_and (st_cmp (sc_op (op_eqD cx.rm.units) ds_eq (se_var 7) se_int)) (sw_and1 (st_not (st_val (se_var 9))))))) (ss_one (by first
      | exact ss_par2 4 5 cx.calm cx.nd (sa_cons (se_bin op_addD ds_add (se_var 4) (NEx.fz (ne_lst (sa_cons (se_str ['-']) sa_nil)))) (sa_cons (se_bin op_sub ds_sub (se_var 5) se_int) sa_nil)) (by rfl)
      | exact ss_parT (hw := by first | rfl | kernel_rfl) cx.calm (sa_cons (se_bin op_addD ds_add (se_var 4) (NEx.fz (ne_lst (sa_cons (se_str ['-']) sa_nil)))) (sa_cons (se_bin op_sub ds_sub (se_var 5) se_int) sa_nil)) (tp_cons 4 cx.nd (tp_cons 5 cx.nd tp_nil)))) (ss_one (ss_if (SW.st (sw_and (st_cmp (sc_op op_gt ds_gt (se_var 5) se_int)) (sw_and (st_cmp (sc_op (op_eqD cx.rm.units) ds_eq (se_var 7) se_int)) (sw_and1 (st_cmp (sc_op (op_neD cx.rm.units) ds_ne (se_var 8) (se_var 6))))))) (ss_one (by first
      | exact ss_par2 4 5 cx.calm cx.nd (sa_cons (se_bin op_addD ds_add (se_var 4) (NEx.fz (ne_lst (sa_cons (se_bin op_addD ds_add (se_str ['~']) (se_var 8)) sa_nil)))) (sa_cons (se_bin op_sub ds_sub (se_var 5) se_int) sa_nil)) (by rfl)
      | exact ss_parT (hw := by first | rfl | kernel_rfl) cx.calm (sa_cons (se_bin op_addD ds_add (se_var 4) (NEx.fz (ne_lst (sa_cons (se_bin op_addD ds_add (se_str ['~']) (se_var 8)) sa_nil)))) (sa_cons (se_bin op_sub ds_sub (se_var 5) se_int) sa_nil)) (tp_cons 4 cx.nd (tp_cons 5 cx.nd tp_nil)))) (ss_cons (ss_if (SW.st (sw_and (st_cmp (sc_op op_gt ds_gt (se_var 5) se_int)) (sw_and1 (st_cmp (sc_op (op_eqD cx.rm.units) ds_eq (se_var 7) se_int))))) (ss_one (by first
      | exact ss_par2 4 5 cx.calm cx.nd (sa_cons (se_bin op_addD ds_add (se_var 4) (NEx.fz (ne_lst (sa_cons (se_bin op_addD ds_add (se_str ['+']) (se_var 8)) sa_nil)))) (sa_cons (se_bin op_sub ds_sub (se_var 5) se_int) sa_nil)) (by rfl)
      | exact ss_parT (hw := by first | rfl | kernel_rfl) cx.calm (sa_cons (se_bin op_addD ds_add (se_var 4) (NEx.fz (ne_lst (sa_cons (se_bin op_addD ds_add (se_str ['+']) (se_var 8)) sa_nil)))) (sa_cons (se_bin op_sub ds_sub (se_var 5) se_int) sa_nil)) (tp_cons 4 cx.nd (tp_cons 5 cx.nd tp_nil)))) ss_nil)
    (ss_one (ss_asg (tg_name 4 cx.nd) (se_bin op_addD ds_add (se_var 4) (NEx.fz (ne_lst (sa_cons (se_str ['=']) sa_nil)))))))))))))))
    (ss_cons (ss_if (SW.st (sw_and (st_cmp (sc_op op_gt ds_gt (se_var 5) se_int)) (sw_and1 (st_cmp (sc_op (op_eqD cx.rm.units) ds_eq (se_call H__law_pick cx.tk cx.rm (sa_cons (se_var 0) (sa_cons se_int sa_nil))) se_int))))) (ss_one (ss_asg (tg_name 4 cx.nd) (se_bin op_addD ds_add (se_var 4) (NEx.fz (ne_lst (sa_cons (se_bin op_addD ds_add (se_str ['+']) (se_ix (se_var 2) (se_call H__law_pick cx.tk cx.rm (sa_cons (se_var 0) (sa_cons (se_bf call_len b_len T.z_len (se_var 2)) sa_nil))))) sa_nil)))))) ss_nil)
    (ss_one (ss_ret (se_bt call_tuple_of b_tup T.z_tuple (se_var 4)))))))
theorem ok__law_scores {fa : Addr} {fd : FuncData} (F : L2.Fun K.K "_law_scores" "_law_scores" (top 61) fa fd) (T : Txt K) (H__law_anchor : FnS P w K base 1 "_law_anchor" 3 F__law_anchor) : FnOk P w K.K K.mg base (L2N.CX P w) 2 fa fd ["rule", "mark", "text"] (spF K 3 F__law_scores) := by
  have S : FnScope ["rule", "mark", "text", "found_so", "place", "before", "after", "agree", "one", "other"] ["rule", "mark", "text"] (defScope (top 61)) := ⟨rfl, rfl, rfl, by decide +kernel, rfl, by decide +kernel, by decide +kernel⟩
  refine fn_ok (N := ["rule", "mark", "text", "found_so", "place", "before", "after", "agree", "one", "other"]) (ps := ["rule", "mark", "text"]) (n := 3) (k := 1) (s := s__law_scores) F S rfl fun X W cdv A outer sh H hX cx hp => ?_
  subst hX
  exact (ss_cons (ss_asg (tg_name 3 cx.nd) (NEx.nw (ne_lst sa_nil)))
    (ss_cons (ss_for hp cx.calm (si_range1 T.z_range (se_bf call_len b_len T.z_len (se_var 2))) (tg_name 4 cx.nd) (ss_cons (by first
      | exact ss_par2 5 6 cx.calm cx.nd (sa_cons (se_ix (se_call H__law_anchor cx.tk cx.rm (sa_cons (se_var 0) (sa_cons (se_var 2) (sa_cons (se_var 4) sa_nil)))) se_int) (sa_cons (se_ix (se_call H__law_anchor cx.tk cx.rm (sa_cons (se_var 0) (sa_cons (se_var 2) (sa_cons (se_var 4) sa_nil)))) se_int) sa_nil)) (by rfl)
      | exact ss_parT (hw := by first | rfl | kernel_rfl) cx.calm (sa_cons (se_ix (se_call H__law_anchor cx.tk cx.rm (sa_cons (se_var 0) (sa_cons (se_var 2) (sa_cons (se_var 4) sa_nil)))) se_int) (sa_cons (se_ix (se_call H__law_anchor cx.tk cx.rm (sa_cons (se_var 0) (sa_cons (se_var 2) (sa_cons (se_var 4) sa_nil)))) se_int) sa_nil)) (tp_cons 5 cx.nd (tp_cons 6 cx.nd tp_nil)))
    (ss_cons (by first
      | exact ss_asgLc (i := 7) (own := [("one", 8), ("other", 9)]) cx.calm cx.nd (si_zip T.z_zip (se_bin op_addD ds_add (se_var 5) (se_var 6)) (se_bin op_addD ds_add (se_ix (se_var 1) se_int) (se_ix (se_var 1) se_int))) (blkOk_by (by kernel_rfl)) (fun s2 H2 C2 cl2 fp2 => (tg_tup (CxOk.blk cx s2 H2 _ _ fp2).calm (tgs_cons 8 (CxOk.blk cx s2 H2 _ _ fp2).nd (tgs_cons 9 (CxOk.blk cx s2 H2 _ _ fp2).nd tgs_nil)))) (fun s2 H2 C2 cl2 fp2 => (sts_one (st_cmp (sc_op (op_eqD (CxOk.blk cx s2 H2 _ _ fp2).rm.units) ds_eq (se_var 8) (se_var 9))))) (fun s2 H2 C2 cl2 fp2 => se_int) (sw_true rfl rfl rfl (by decide +kernel))
      | exact ss_asg (tg_name 7 cx.nd) (NEx.fz (ne_lcE (own := [("one", 8), ("other", 9)]) cx.calm cx.nd (si_zip T.z_zip (se_bin op_addD ds_add (se_var 5) (se_var 6)) (se_bin op_addD ds_add (se_ix (se_var 1) se_int) (se_ix (se_var 1) se_int))) (blkOk_by (by kernel_rfl)) (fun s1 H1 C1 cl1 fp1 => (tg_tup (CxOk.blk cx s1 H1 _ _ fp1).calm (tgs_cons 8 (CxOk.blk cx s1 H1 _ _ fp1).nd (tgs_cons 9 (CxOk.blk cx s1 H1 _ _ fp1).nd tgs_nil)))) (fun s1 H1 C1 cl1 fp1 => (sts_one (st_cmp (sc_op (op_eqD (CxOk.blk cx s1 H1 _ _ fp1).rm.units) ds_eq (se_var 8) (se_var 9))))) (fun s1 H1 C1 cl1 fp1 => se_int))))
    (ss_one (ss_app (se_var 3) (se_bin op_addD ds_add (se_bf call_len b_len T.z_len (se_var 7)) (se_ix (NEx.fz (ne_lst (sa_cons se_int (sa_cons (se_ix (se_var 0) se_int) sa_nil)))) (se_bt call_int1 b_int T.z_int (se_cmp (sc_op (op_eqD cx.rm.units) ds_eq (se_ix (se_var 2) (se_var 4)) (se_ix (se_var 1) se_int)))))))))))
    (ss_fz 3 (ss_one (ss_ret (se_var 3))))))
theorem ok__law_found {fa : Addr} {fd : FuncData} (F : L2.Fun K.K "_law_found" "_law_found" (top 59) fa fd) (T : Txt K)  : FnOk P w K.K K.mg base (L2N.CX P w) 1 fa fd ["rule", "old", "line", "text"] (spF K 4 F__law_found) := by
  have S : FnScope ["rule", "old", "line", "text", "signs", "later", "best", "spot", "place", "score", "far", "better"] ["rule", "old", "line", "text"] (defScope (top 59)) := ⟨rfl, rfl, rfl, by decide +kernel, rfl, by decide +kernel, by decide +kernel⟩
  refine fn_ok (N := ["rule", "old", "line", "text", "signs", "later", "best", "spot", "place", "score", "far", "better"]) (ps := ["rule", "old", "line", "text"]) (n := 4) (k := 0) (s := s__law_found) F S rfl fun X W cdv A outer sh H hX cx hp => ?_
  subst hX
  exact (ss_cons (ss_asg (tg_name 4 cx.nd) (se_bin op_addD ds_add (se_bin op_addD ds_add (se_str ['^', '^', '^']) (se_var 1)) (se_str ['$', '$', '$'])))
    (ss_cons (ss_asg (tg_name 5 cx.nd) (se_bin op_addD ds_add (se_bin op_addD ds_add (se_str ['^', '^', '^']) (se_var 3)) (se_str ['$', '$', '$'])))
    (ss_cons (by first
      | exact ss_par2 6 7 cx.calm cx.nd (sa_cons se_int (sa_cons (se_un un_neg ds_neg se_int) sa_nil)) (by rfl)
      | exact ss_parT (hw := by first | rfl | kernel_rfl) cx.calm (sa_cons se_int (sa_cons (se_un un_neg ds_neg se_int) sa_nil)) (tp_cons 6 cx.nd (tp_cons 7 cx.nd tp_nil)))
    (ss_cons (ss_for hp cx.calm (si_range1 T.z_range (se_bf call_len b_len T.z_len (se_var 3))) (tg_name 8 cx.nd) (ss_cons (ss_asg (tg_name 9 cx.nd) (se_if (st_cmp (sc_op (op_eqD cx.rm.units) ds_eq (se_ix (se_var 3) (se_var 8)) (se_ix (se_var 1) (se_var 2)))) (se_ix (se_var 0) se_int) se_int))
    (ss_cons (ss_for hp cx.calm (si_val (se_bin op_addD ds_add (NEx.fz (ne_rg2 cx.calm T.z_list T.z_range (se_bin op_sub ds_sub se_int (se_ix (se_var 0) se_int)) se_int)) (NEx.fz (ne_rg2 cx.calm T.z_list T.z_range se_int (se_bin op_addD ds_add (se_ix (se_var 0) se_int) se_int))))) (tg_name 10 cx.nd) (ss_one (ss_asg (tg_name 9 cx.nd) (se_bin op_addD ds_add (se_var 9) (se_bt call_int1 b_int T.z_int (se_cmp (sc_op (op_eqD cx.rm.units) ds_eq (se_ix (se_var 4) (se_bin op_addD ds_add (se_bin op_addD ds_add (se_var 2) se_int) (se_var 10))) (se_ix (se_var 5) (se_bin op_addD ds_add (se_bin op_addD ds_add (se_var 8) se_int) (se_var 10))))))))))
    (ss_cons (ss_asg (tg_name 11 cx.nd) (se_or (se_cmp (sc_op op_gt ds_gt (se_var 9) (se_var 6))) (se_one (se_and (se_cmp (sc_op (op_eqD cx.rm.units) ds_eq (se_var 9) (se_var 6))) (se_one (se_cmp (sc_op (op_eqD cx.rm.units) ds_eq (se_ix (se_var 0) se_int) (se_str ['l', 'a', 's', 't']))))))))
    (ss_one (ss_if (SW.st (sw_and (st_cmp (sc_op op_ge ds_ge (se_var 9) (se_ix (se_var 0) se_int))) (sw_and1 (SW.st (sw_or (st_cmp (sc_op op_lt ds_lt (se_var 7) se_int)) (sw_or1 (st_val (se_var 11)))))))) (ss_one (by first
      | exact ss_par2 6 7 cx.calm cx.nd (sa_cons (se_var 9) (sa_cons (se_var 8) sa_nil)) (by rfl)
      | exact ss_parT (hw := by first | rfl | kernel_rfl) cx.calm (sa_cons (se_var 9) (sa_cons (se_var 8) sa_nil)) (tp_cons 6 cx.nd (tp_cons 7 cx.nd tp_nil)))) ss_nil))))))
    (ss_one (ss_ret (se_var 7)))))))
theorem ok_law {fa cA T0 : Addr} {oc kV doc pm ct : Value} {od an : Option Addr} {osl : Array (Option Value)} (lk : K.K.lookup fa = some ⟨oc, od, .func (PySem.W.fnOf "law" "law" (defArgs (top 64)) (defBody (top 64)) (defScope (top 64)) .none kV doc pm an (.ref cA) ct), osl⟩) (hcd : PySem.W.codeIn K.K (.ref cA) "law" = true) (T : Txt K) (TR : TryS P w K base 6 nmOf) (TB : LamX.TabB base K.mg cA T0) (H__law_deck : FnS P w K base 1 "_law_deck" 2 F__law_deck) (H__law_rule : FnS P w K base 2 "_law_rule" 1 F__law_rule) (H__law_no_rules : FnS P w K base 3 "_law_no_rules" 1 F__law_no_rules) (H_is_rule : FnS P w K base 3 "is_rule" 1 F_is_rule) (H__law_is_rule : FnS P w K base 1 "_law_is_rule" 1 F__law_is_rule) (H__law_bool : FnS P w K base 1 "_law_bool" 2 F__law_bool) (H__law_text : FnS P w K base 2 "_law_text" 2 F__law_text) (H__law_pick : FnS P w K base 1 "_law_pick" 2 F__law_pick) (H__law_anchor : FnS P w K base 1 "_law_anchor" 3 F__law_anchor) (H__law_row : FnS P w K base 2 "_law_row" 4 F__law_row) (H__law_walked : FnS P w K base 1 "_law_walked" 2 F__law_walked) (H_anchor : FnS P w K base 4 "anchor" 3 F_anchor) (H__law_same : FnS P w K base 5 "_law_same" 2 F__law_same) (H_scores : FnS P w K base 5 "scores" 3 F_scores) (H__law_scores : FnS P w K base 2 "_law_scores" 3 F__law_scores) (H_found : FnS P w K base 6 "found" 3 F_found) (H__law_found : FnS P w K base 1 "_law_found" 4 F__law_found) : FnOk P w K.K K.mg base (L2N.CX P w) 9 fa (PySem.W.fnOf "law" "law" (defArgs (top 64)) (defBody (top 64)) (defScope (top 64)) .none kV doc pm an (.ref cA) ct) ["script"] (spF K 1 (F_law T0)) := by
  have S : FnScope ["script", "cell", "deck", "rule", "value", "text", "line", "mark", "later", "one", "r", "odd"] ["script"] (defScope (top 64)) := ⟨rfl, rfl, rfl, by decide +kernel, rfl, by decide +kernel, by decide +kernel⟩
  refine fn_okT (N := ["script", "cell", "deck", "rule", "value", "text", "line", "mark", "later", "one", "r", "odd"]) (ps := ["script"]) (n := 1) (k := 8) (s := s_law T0) lk hcd S rfl fun X W A outer sh H hX cx hp => ?_
  subst hX
  exact (ss_cons (ss_for hp cx.calm (si_val (se_slice (se_bin op_addD ds_add (NEx.fz (ne_lst (sa_cons se_int sa_nil) (hl := Nat.le_of_ble_eq_true rfl))) (se_var 0)) so_none (so_some se_int))) (tg_name 1 cx.nd) (ss_cons (ss_asg (tg_name 2 cx.nd) (se_call (H__law_deck.mono (by decide)) cx.tk cx.rm (sa_cons (se_var 1) (sa_cons se_int sa_nil))))
    (ss_cons (ss_asg (tg_name 3 cx.nd) (se_call (H__law_rule.mono (by decide)) cx.tk cx.rm (sa_cons (se_var 2) sa_nil)))
    (ss_cons (ss_for hp cx.calm (si_val (se_bin op_addD ds_add (NEx.fz (ne_lst (sa_cons (se_var 3) sa_nil) (hl := Nat.le_of_ble_eq_true rfl))) (se_call (H__law_no_rules.mono (by decide)) cx.tk cx.rm (sa_cons (se_var 2) sa_nil)))) (tg_name 4 cx.nd) (ss_one (ss_if (st_not (st_val (se_call (H__law_bool.mono (by decide)) cx.tk cx.rm (sa_cons (se_call (H_is_rule.mono (by decide)) cx.tk cx.rm (sa_cons (se_var 4) sa_nil)) (sa_cons (se_call (H__law_is_rule.mono (by decide)) cx.tk cx.rm (sa_cons (se_var 4) sa_nil)) sa_nil))))) (ss_one (ss_ret se_bl)) ss_nil)))
    (ss_cons (ss_asg (tg_name 5 cx.nd) (se_bin op_addD ds_add (se_str ['a', 'b']) (se_call (H__law_text.mono (by decide)) cx.tk cx.rm (sa_cons (se_var 2) (sa_cons se_int sa_nil)))))
    (ss_cons (ss_asg (tg_name 6 cx.nd) (se_call (H__law_pick.mono (by decide)) cx.tk cx.rm (sa_cons (se_var 2) (sa_cons (se_bf call_len b_len T.z_len (se_var 5)) sa_nil))))
    (ss_cons (ss_asg (tg_name 7 cx.nd) (se_call (H__law_anchor.mono (by decide)) cx.tk cx.rm (sa_cons (se_var 3) (sa_cons (se_var 5) (sa_cons (se_var 6) sa_nil)))))
    (ss_cons (ss_asg (tg_name 8 cx.nd) (NEx.fz (ne_lst (sa_cons (se_ix (se_call (H__law_walked.mono (by decide)) cx.tk cx.rm (sa_cons (se_var 5) (sa_cons (se_call (H__law_row.mono (by decide)) cx.tk cx.rm (sa_cons (se_var 2) (sa_cons (se_var 5) (sa_cons (se_str ['a', 'b', 'x']) (sa_cons se_int sa_nil))))) sa_nil))) se_int) (sa_cons (se_call (H__law_text.mono (by decide)) cx.tk cx.rm (sa_cons (se_var 2) (sa_cons se_int sa_nil))) (sa_cons (se_var 5) sa_nil))) (hl := Nat.le_of_ble_eq_true rfl))))
    (ss_cons (ss_if (st_not (st_val (se_call (H__law_same.mono (by decide)) cx.tk cx.rm (sa_cons (se_call (H_anchor.mono (by decide)) cx.tk cx.rm (sa_cons (se_var 3) (sa_cons (se_var 5) (sa_cons (se_var 6) sa_nil)))) (sa_cons (se_var 7) sa_nil))))) (ss_one (ss_ret se_bl)) ss_nil)
    (ss_one (ss_for hp cx.calm (si_val (se_var 8)) (tg_name 9 cx.nd) (ss_cons (ss_if (st_not (st_val (se_call (H__law_same.mono (by decide)) cx.tk cx.rm (sa_cons (se_call (H_scores.mono (by decide)) cx.tk cx.rm (sa_cons (se_var 3) (sa_cons (se_var 7) (sa_cons (se_var 9) sa_nil)))) (sa_cons (se_call (H__law_scores.mono (by decide)) cx.tk cx.rm (sa_cons (se_var 3) (sa_cons (se_var 7) (sa_cons (se_var 9) sa_nil)))) sa_nil))))) (ss_one (ss_ret se_bl)) ss_nil)
    (ss_one (ss_if (st_not (st_val (se_call (H__law_same.mono (by decide)) cx.tk cx.rm (sa_cons (se_call (H_found.mono (by decide)) cx.tk cx.rm (sa_cons (se_var 3) (sa_cons (se_var 7) (sa_cons (se_var 9) sa_nil)))) (sa_cons (se_call (H__law_found.mono (by decide)) cx.tk cx.rm (sa_cons (se_var 3) (sa_cons (se_var 5) (sa_cons (se_var 6) (sa_cons (se_var 9) sa_nil))))) sa_nil))))) (ss_one (ss_ret se_bl)) ss_nil))))))))))))))
    (ss_cons (ss_asg (tg_name 10 cx.nd) (se_tup (sa_cons se_int (sa_cons se_int (sa_cons se_int (sa_cons se_int (sa_cons (se_str k_first) sa_nil))))) (hl := Nat.le_of_ble_eq_true rfl)))
    (ss_cons (ss_for hp cx.calm (si_val (se_tup (sa_cons se_non (sa_cons (se_tup (sa_cons se_int (sa_cons (se_str ['a']) (sa_cons (se_str ['b']) sa_nil))) (hl := Nat.le_of_ble_eq_true rfl)) (sa_cons (se_tup (sa_cons se_int (sa_cons (se_str ['a']) (sa_cons (se_str ['b']) (sa_cons (se_str ['c']) sa_nil)))) (hl := Nat.le_of_ble_eq_true rfl)) (sa_cons (se_tup (sa_cons se_int (sa_cons (se_str ['$']) (sa_cons (se_str ['b']) (sa_cons (se_str ['c']) sa_nil)))) (hl := Nat.le_of_ble_eq_true rfl)) (sa_cons (se_tup (sa_cons se_int (sa_cons (se_str ['a']) (sa_cons (se_str ['^']) (sa_cons (se_str ['c']) sa_nil)))) (hl := Nat.le_of_ble_eq_true rfl)) (sa_cons (se_tup (sa_cons se_int (sa_cons (se_str []) (sa_cons (se_str ['b']) (sa_cons (se_str ['c']) sa_nil)))) (hl := Nat.le_of_ble_eq_true rfl)) sa_nil)))))) (hl := Nat.le_of_ble_eq_true rfl))) (tg_name 11 cx.nd) (ss_cons (ss_if (st_cmp (sc_op (op_neD cx.rm.units) ds_ne (se_tryC TR (cx.rm.mono (by decide)) cx.nd TB (fun Y1 E1 hY1 cy1 => by
      obtain ⟨_, _, _, _, _, _, rfl⟩ := hY1
      exact (se_call (H_scores.mono (by decide)) cy1.tk cy1.rm (sa_cons (se_var 10) (sa_cons (se_var 11) (sa_cons se_non sa_nil)))))) (se_str k_Anchor_))) (ss_one (ss_ret se_bl)) ss_nil)
    (ss_one (ss_if (st_cmp (sc_op (op_neD cx.rm.units) ds_ne (se_tryC TR (cx.rm.mono (by decide)) cx.nd TB (fun Y2 E2 hY2 cy2 => by
      obtain ⟨_, _, _, _, _, _, rfl⟩ := hY2
      exact (se_call (H_found.mono (by decide)) cy2.tk cy2.rm (sa_cons (se_var 10) (sa_cons (se_var 11) (sa_cons se_non sa_nil)))))) (se_str k_Anchor_))) (ss_one (ss_ret se_bl)) ss_nil))))
    (ss_cons (ss_for hp cx.calm (si_val (se_tup (sa_cons (NEx.fz (ne_lst (sa_cons se_int (sa_cons (se_str ['a']) (sa_cons (se_str ['b']) (sa_cons (se_str ['c']) sa_nil)))) (hl := Nat.le_of_ble_eq_true rfl))) (sa_cons (se_tup (sa_cons se_int (sa_cons (se_str ['a']) (sa_cons (se_str ['b', 'b']) (sa_cons (se_str ['c']) sa_nil)))) (hl := Nat.le_of_ble_eq_true rfl)) (sa_cons (se_tup (sa_cons se_int (sa_cons (se_str ['a']) (sa_cons (se_str ['b']) (sa_cons (se_str ['^']) sa_nil)))) (hl := Nat.le_of_ble_eq_true rfl)) (sa_cons (se_tup (sa_cons se_int (sa_cons (se_str ['a']) (sa_cons (se_str ['b']) (sa_cons (se_str ['A']) sa_nil)))) (hl := Nat.le_of_ble_eq_true rfl)) (sa_cons (se_tup (sa_cons se_bl (sa_cons (se_str ['a']) (sa_cons (se_str ['b']) (sa_cons (se_str ['c']) sa_nil)))) (hl := Nat.le_of_ble_eq_true rfl)) sa_nil))))) (hl := Nat.le_of_ble_eq_true rfl))) (tg_name 11 cx.nd) (ss_one (ss_if (st_cmp (sc_op (op_neD cx.rm.units) ds_ne (se_tryC TR (cx.rm.mono (by decide)) cx.nd TB (fun Y3 E3 hY3 cy3 => by
      obtain ⟨_, _, _, _, _, _, rfl⟩ := hY3
      exact (se_call (H_found.mono (by decide)) cy3.tk cy3.rm (sa_cons (se_var 10) (sa_cons (se_var 11) (sa_cons se_non sa_nil)))))) (se_str k_Anchor_))) (ss_one (ss_ret se_bl)) ss_nil)))
    (ss_cons (ss_if (st_cmp (sc_op (op_neD cx.rm.units) ds_ne (se_tryC TR (cx.rm.mono (by decide)) cx.nd TB (fun Y4 E4 hY4 cy4 => by
      obtain ⟨_, _, _, _, _, _, rfl⟩ := hY4
      exact (se_call (H_found.mono (by decide)) cy4.tk cy4.rm (sa_cons (se_tup (sa_cons se_int (sa_cons se_int (sa_cons se_int (sa_cons se_int (sa_cons (se_str ['l', 'a', 's', 't']) sa_nil))))) (hl := Nat.le_of_ble_eq_true rfl)) (sa_cons (se_tup (sa_cons se_int (sa_cons (se_str ['a', '^']) (sa_cons (se_str ['b']) (sa_cons (se_str []) sa_nil)))) (hl := Nat.le_of_ble_eq_true rfl)) (sa_cons (se_str ['a', 'b']) sa_nil)))))) (se_str k_Anchor_))) (ss_one (ss_ret se_bl)) ss_nil)
    (ss_one (ss_ret (se_and (se_cmp (sc_op (op_eqD cx.rm.units) ds_eq (se_call (H_scores.mono (by decide)) cx.tk cx.rm (sa_cons (se_var 10) (sa_cons (se_tup (sa_cons se_int (sa_cons (se_str ['a']) (sa_cons (se_str ['b']) (sa_cons (se_str ['c']) sa_nil)))) (hl := Nat.le_of_ble_eq_true rfl)) (sa_cons (se_str ['b', 'a', 'b']) sa_nil)))) (NEx.fz (ne_lst (sa_cons se_int (sa_cons se_int (sa_cons se_int sa_nil))) (hl := Nat.le_of_ble_eq_true rfl))))) (se_one (se_cmp (sc_op (op_eqD cx.rm.units) ds_eq (se_call (H_found.mono (by decide)) cx.tk cx.rm (sa_cons (se_var 10) (sa_cons (se_tup (sa_cons se_int (sa_cons (se_str ['a']) (sa_cons (se_str ['b']) (sa_cons (se_str ['c']) sa_nil)))) (hl := Nat.le_of_ble_eq_true rfl)) (sa_cons (se_str []) sa_nil)))) (se_un un_neg ds_neg se_int))))))))))))
end
/-! what the head has written -/
theorem all_mk {l : PySem.W.OpenLaw} {T0 cA : Addr} {w : World} {K : PySem.W.Frag} {h : Heap} {mg : Str → Option Value} {fa f0 f1 f2 f3 f4 f5 f6 f7 f8 f9 f10 f11 f12 f13 f14 f15 f16 f17 f18 f19 f20 f21 f22 f23 f24 f25 f26 f27 f28 f29 f30 f31 f32 f33 f34 f35 f36 : Addr} (X : K.In h) (G : h.Ns mainGlobals mg) (hfa : mg "law" = some (.ref fa))
    {od0 an0 od1 an1 od2 an2 od3 an3 od4 an4 od5 an5 od6 an6 od7 an7 od8 an8 od9 an9 od10 an10 od11 an11 od12 an12 od13 an13 od14 an14 od15 an15 od16 an16 od17 an17 od18 an18 od19 an19 od20 an20 od21 an21 od22 an22 od23 an23 od24 an24 od25 an25 od26 an26 od27 an27 od28 an28 od29 an29 od30 an30 od31 an31 od32 an32 od33 an33 od34 an34 od35 an35 od36 an36 : Option Addr} {sl0 sl1 sl2 sl3 sl4 sl5 sl6 sl7 sl8 sl9 sl10 sl11 sl12 sl13 sl14 sl15 sl16 sl17 sl18 sl19 sl20 sl21 sl22 sl23 sl24 sl25 sl26 sl27 sl28 sl29 sl30 sl31 sl32 sl33 sl34 sl35 sl36 : Array (Option Value)} {oc0 kV0 dc0 pm0 cd0 ct0 oc1 kV1 dc1 pm1 cd1 ct1 oc2 kV2 dc2 pm2 cd2 ct2 oc3 kV3 dc3 pm3 cd3 ct3 oc4 kV4 dc4 pm4 cd4 ct4 oc5 kV5 dc5 pm5 cd5 ct5 oc6 kV6 dc6 pm6 cd6 ct6 oc7 kV7 dc7 pm7 cd7 ct7 oc8 kV8 dc8 pm8 cd8 ct8 oc9 kV9 dc9 pm9 cd9 ct9 oc10 kV10 dc10 pm10 cd10 ct10 oc11 kV11 dc11 pm11 cd11 ct11 oc12 kV12 dc12 pm12 cd12 ct12 oc13 kV13 dc13 pm13 cd13 ct13 oc14 kV14 dc14 pm14 cd14 ct14 oc15 kV15 dc15 pm15 cd15 ct15 oc16 kV16 dc16 pm16 cd16 ct16 oc17 kV17 dc17 pm17 cd17 ct17 oc18 kV18 dc18 pm18 cd18 ct18 oc19 kV19 dc19 pm19 cd19 ct19 oc20 kV20 dc20 pm20 cd20 ct20 oc21 kV21 dc21 pm21 cd21 ct21 oc22 kV22 dc22 pm22 cd22 ct22 oc23 kV23 dc23 pm23 cd23 ct23 oc24 kV24 dc24 pm24 cd24 ct24 oc25 kV25 dc25 pm25 cd25 ct25 oc26 kV26 dc26 pm26 cd26 ct26 oc27 kV27 dc27 pm27 cd27 ct27 oc28 kV28 dc28 pm28 cd28 ct28 oc29 kV29 dc29 pm29 cd29 ct29 oc30 kV30 dc30 pm30 cd30 ct30 oc31 kV31 dc31 pm31 cd31 ct31 oc32 kV32 dc32 pm32 cd32 ct32 oc33 kV33 dc33 pm33 cd33 ct33 oc34 kV34 dc34 pm34 cd34 ct34 oc35 kV35 dc35 pm35 cd35 ct35 oc36 kV36 dc36 pm36 ct36 : Value}
    (a0 : PySem.W.nsIn K mainGlobals "_law_deck" = some (some (.ref f0))) (l0 : K.lookup f0 = some ⟨oc0, od0, .func (PySem.W.fnOf "_law_deck" "_law_deck" (defArgs (top 48)) (defBody (top 48)) (defScope (top 48)) .none kV0 dc0 pm0 an0 cd0 ct0), sl0⟩) (q0 : PySem.W.codeIn K cd0 "_law_deck" = true) (k0 : PySem.W.keepIn K (.ref f0) = true)
    (a1 : PySem.W.nsIn K mainGlobals "_law_pick" = some (some (.ref f1))) (l1 : K.lookup f1 = some ⟨oc1, od1, .func (PySem.W.fnOf "_law_pick" "_law_pick" (defArgs (top 49)) (defBody (top 49)) (defScope (top 49)) .none kV1 dc1 pm1 an1 cd1 ct1), sl1⟩) (q1 : PySem.W.codeIn K cd1 "_law_pick" = true) (k1 : PySem.W.keepIn K (.ref f1) = true)
    (a2 : PySem.W.nsIn K mainGlobals "_law_rule" = some (some (.ref f2))) (l2 : K.lookup f2 = some ⟨oc2, od2, .func (PySem.W.fnOf "_law_rule" "_law_rule" (defArgs (top 58)) (defBody (top 58)) (defScope (top 58)) .none kV2 dc2 pm2 an2 cd2 ct2), sl2⟩) (q2 : PySem.W.codeIn K cd2 "_law_rule" = true) (k2 : PySem.W.keepIn K (.ref f2) = true)
    (a3 : PySem.W.nsIn K mainGlobals "_law_anchor" = some (some (.ref f3))) (l3 : K.lookup f3 = some ⟨oc3, od3, .func (PySem.W.fnOf "_law_anchor" "_law_anchor" (defArgs (top 60)) (defBody (top 60)) (defScope (top 60)) .none kV3 dc3 pm3 an3 cd3 ct3), sl3⟩) (q3 : PySem.W.codeIn K cd3 "_law_anchor" = true) (k3 : PySem.W.keepIn K (.ref f3) = true)
    (a4 : PySem.W.nsIn K mainGlobals "_law_name_of" = some (some (.ref f4))) (l4 : K.lookup f4 = some ⟨oc4, od4, .func (PySem.W.fnOf "_law_name_of" "_law_name_of" (defArgs (top 53)) (defBody (top 53)) (defScope (top 53)) .none kV4 dc4 pm4 an4 cd4 ct4), sl4⟩) (q4 : PySem.W.codeIn K cd4 "_law_name_of" = true) (k4 : PySem.W.keepIn K (.ref f4) = true)
    (a5 : PySem.W.nsIn K mainGlobals "_law_try" = some (some (.ref f5))) (l5 : K.lookup f5 = some ⟨oc5, od5, .func (PySem.W.fnOf "_law_try" "_law_try" (defArgs (top 54)) (defBody (top 54)) (defScope (top 54)) .none kV5 dc5 pm5 an5 cd5 ct5), sl5⟩) (q5 : PySem.W.codeIn K cd5 "_law_try" = true) (k5 : PySem.W.keepIn K (.ref f5) = true)
    (a6 : PySem.W.nsIn K mainGlobals "_law_no_rules" = some (some (.ref f6))) (l6 : K.lookup f6 = some ⟨oc6, od6, .func (PySem.W.fnOf "_law_no_rules" "_law_no_rules" (defArgs (top 62)) (defBody (top 62)) (defScope (top 62)) .none kV6 dc6 pm6 an6 cd6 ct6), sl6⟩) (q6 : PySem.W.codeIn K cd6 "_law_no_rules" = true) (k6 : PySem.W.keepIn K (.ref f6) = true)
    (a7 : PySem.W.nsIn K mainGlobals "_law_text" = some (some (.ref f7))) (l7 : K.lookup f7 = some ⟨oc7, od7, .func (PySem.W.fnOf "_law_text" "_law_text" (defArgs (top 55)) (defBody (top 55)) (defScope (top 55)) .none kV7 dc7 pm7 an7 cd7 ct7), sl7⟩) (q7 : PySem.W.codeIn K cd7 "_law_text" = true) (k7 : PySem.W.keepIn K (.ref f7) = true)
    (a8 : PySem.W.nsIn K mainGlobals "_law_sort" = some (some (.ref f8))) (l8 : K.lookup f8 = some ⟨oc8, od8, .func (PySem.W.fnOf "_law_sort" "_law_sort" (defArgs (top 50)) (defBody (top 50)) (defScope (top 50)) .none kV8 dc8 pm8 an8 cd8 ct8), sl8⟩) (q8 : PySem.W.codeIn K cd8 "_law_sort" = true) (k8 : PySem.W.keepIn K (.ref f8) = true)
    (a9 : PySem.W.nsIn K mainGlobals "_law_same" = some (some (.ref f9))) (l9 : K.lookup f9 = some ⟨oc9, od9, .func (PySem.W.fnOf "_law_same" "_law_same" (defArgs (top 51)) (defBody (top 51)) (defScope (top 51)) .none kV9 dc9 pm9 an9 cd9 ct9), sl9⟩) (q9 : PySem.W.codeIn K cd9 "_law_same" = true) (k9 : PySem.W.keepIn K (.ref f9) = true)
    (a10 : PySem.W.nsIn K mainGlobals "is_from" = some (some (.ref f10))) (l10 : K.lookup f10 = some ⟨oc10, od10, .func (PySem.W.fnOf "is_from" "is_from" (defArgs (top 26)) (defBody (top 26)) (defScope (top 26)) .none kV10 dc10 pm10 an10 cd10 ct10), sl10⟩) (q10 : PySem.W.codeIn K cd10 "is_from" = true) (k10 : PySem.W.keepIn K (.ref f10) = true)
    (a11 : PySem.W.nsIn K mainGlobals "is_rule_of" = some (some (.ref f11))) (l11 : K.lookup f11 = some ⟨oc11, od11, .func (PySem.W.fnOf "is_rule_of" "is_rule_of" (defArgs (top 29)) (defBody (top 29)) (defScope (top 29)) .none kV11 dc11 pm11 an11 cd11 ct11), sl11⟩) (q11 : PySem.W.codeIn K cd11 "is_rule_of" = true) (k11 : PySem.W.keepIn K (.ref f11) = true)
    (a12 : PySem.W.nsIn K mainGlobals "need_rule" = some (some (.ref f12))) (l12 : K.lookup f12 = some ⟨oc12, od12, .func (PySem.W.fnOf "need_rule" "need_rule" (defArgs (top 32)) (defBody (top 32)) (defScope (top 32)) .none kV12 dc12 pm12 an12 cd12 ct12), sl12⟩) (q12 : PySem.W.codeIn K cd12 "need_rule" = true) (k12 : PySem.W.keepIn K (.ref f12) = true)
    (a13 : PySem.W.nsIn K mainGlobals "is_sign" = some (some (.ref f13))) (l13 : K.lookup f13 = some ⟨oc13, od13, .func (PySem.W.fnOf "is_sign" "is_sign" (defArgs (top 27)) (defBody (top 27)) (defScope (top 27)) .none kV13 dc13 pm13 an13 cd13 ct13), sl13⟩) (q13 : PySem.W.codeIn K cd13 "is_sign" = true) (k13 : PySem.W.keepIn K (.ref f13) = true)
    (a14 : PySem.W.nsIn K mainGlobals "is_anchor_of" = some (some (.ref f14))) (l14 : K.lookup f14 = some ⟨oc14, od14, .func (PySem.W.fnOf "is_anchor_of" "is_anchor_of" (defArgs (top 42)) (defBody (top 42)) (defScope (top 42)) .none kV14 dc14 pm14 an14 cd14 ct14), sl14⟩) (q14 : PySem.W.codeIn K cd14 "is_anchor_of" = true) (k14 : PySem.W.keepIn K (.ref f14) = true)
    (a15 : PySem.W.nsIn K mainGlobals "need_anchor" = some (some (.ref f15))) (l15 : K.lookup f15 = some ⟨oc15, od15, .func (PySem.W.fnOf "need_anchor" "need_anchor" (defArgs (top 43)) (defBody (top 43)) (defScope (top 43)) .none kV15 dc15 pm15 an15 cd15 ct15), sl15⟩) (q15 : PySem.W.codeIn K cd15 "need_anchor" = true) (k15 : PySem.W.keepIn K (.ref f15) = true)
    (a16 : PySem.W.nsIn K mainGlobals "is_text_of" = some (some (.ref f16))) (l16 : K.lookup f16 = some ⟨oc16, od16, .func (PySem.W.fnOf "is_text_of" "is_text_of" (defArgs (top 28)) (defBody (top 28)) (defScope (top 28)) .none kV16 dc16 pm16 an16 cd16 ct16), sl16⟩) (q16 : PySem.W.codeIn K cd16 "is_text_of" = true) (k16 : PySem.W.keepIn K (.ref f16) = true)
    (a17 : PySem.W.nsIn K mainGlobals "need_text" = some (some (.ref f17))) (l17 : K.lookup f17 = some ⟨oc17, od17, .func (PySem.W.fnOf "need_text" "need_text" (defArgs (top 30)) (defBody (top 30)) (defScope (top 30)) .none kV17 dc17 pm17 an17 cd17 ct17), sl17⟩) (q17 : PySem.W.codeIn K cd17 "need_text" = true) (k17 : PySem.W.keepIn K (.ref f17) = true)
    (a18 : PySem.W.nsIn K mainGlobals "need_line" = some (some (.ref f18))) (l18 : K.lookup f18 = some ⟨oc18, od18, .func (PySem.W.fnOf "need_line" "need_line" (defArgs (top 31)) (defBody (top 31)) (defScope (top 31)) .none kV18 dc18 pm18 an18 cd18 ct18), sl18⟩) (q18 : PySem.W.codeIn K cd18 "need_line" = true) (k18 : PySem.W.keepIn K (.ref f18) = true)
    (a19 : PySem.W.nsIn K mainGlobals "sign_at" = some (some (.ref f19))) (l19 : K.lookup f19 = some ⟨oc19, od19, .func (PySem.W.fnOf "sign_at" "sign_at" (defArgs (top 35)) (defBody (top 35)) (defScope (top 35)) .none kV19 dc19 pm19 an19 cd19 ct19), sl19⟩) (q19 : PySem.W.codeIn K cd19 "sign_at" = true) (k19 : PySem.W.keepIn K (.ref f19) = true)
    (a20 : PySem.W.nsIn K mainGlobals "around" = some (some (.ref f20))) (l20 : K.lookup f20 = some ⟨oc20, od20, .func (PySem.W.fnOf "around" "around" (defArgs (top 36)) (defBody (top 36)) (defScope (top 36)) .none kV20 dc20 pm20 an20 cd20 ct20), sl20⟩) (q20 : PySem.W.codeIn K cd20 "around" = true) (k20 : PySem.W.keepIn K (.ref f20) = true)
    (a21 : PySem.W.nsIn K mainGlobals "anchor_of" = some (some (.ref f21))) (l21 : K.lookup f21 = some ⟨oc21, od21, .func (PySem.W.fnOf "anchor_of" "anchor_of" (defArgs (top 37)) (defBody (top 37)) (defScope (top 37)) .none kV21 dc21 pm21 an21 cd21 ct21), sl21⟩) (q21 : PySem.W.codeIn K cd21 "anchor_of" = true) (k21 : PySem.W.keepIn K (.ref f21) = true)
    (a22 : PySem.W.nsIn K mainGlobals "anchor" = some (some (.ref f22))) (l22 : K.lookup f22 = some ⟨oc22, od22, .func (PySem.W.fnOf "anchor" "anchor" (defArgs (top 44)) (defBody (top 44)) (defScope (top 44)) .none kV22 dc22 pm22 an22 cd22 ct22), sl22⟩) (q22 : PySem.W.codeIn K cd22 "anchor" = true) (k22 : PySem.W.keepIn K (.ref f22) = true)
    (a23 : PySem.W.nsIn K mainGlobals "score_at" = some (some (.ref f23))) (l23 : K.lookup f23 = some ⟨oc23, od23, .func (PySem.W.fnOf "score_at" "score_at" (defArgs (top 38)) (defBody (top 38)) (defScope (top 38)) .none kV23 dc23 pm23 an23 cd23 ct23), sl23⟩) (q23 : PySem.W.codeIn K cd23 "score_at" = true) (k23 : PySem.W.keepIn K (.ref f23) = true)
    (a24 : PySem.W.nsIn K mainGlobals "scores_at" = some (some (.ref f24))) (l24 : K.lookup f24 = some ⟨oc24, od24, .func (PySem.W.fnOf "scores_at" "scores_at" (defArgs (top 39)) (defBody (top 39)) (defScope (top 39)) .none kV24 dc24 pm24 an24 cd24 ct24), sl24⟩) (q24 : PySem.W.codeIn K cd24 "scores_at" = true) (k24 : PySem.W.keepIn K (.ref f24) = true)
    (a25 : PySem.W.nsIn K mainGlobals "scores" = some (some (.ref f25))) (l25 : K.lookup f25 = some ⟨oc25, od25, .func (PySem.W.fnOf "scores" "scores" (defArgs (top 45)) (defBody (top 45)) (defScope (top 45)) .none kV25 dc25 pm25 an25 cd25 ct25), sl25⟩) (q25 : PySem.W.codeIn K cd25 "scores" = true) (k25 : PySem.W.keepIn K (.ref f25) = true)
    (a26 : PySem.W.nsIn K mainGlobals "best_place" = some (some (.ref f26))) (l26 : K.lookup f26 = some ⟨oc26, od26, .func (PySem.W.fnOf "best_place" "best_place" (defArgs (top 40)) (defBody (top 40)) (defScope (top 40)) .none kV26 dc26 pm26 an26 cd26 ct26), sl26⟩) (q26 : PySem.W.codeIn K cd26 "best_place" = true) (k26 : PySem.W.keepIn K (.ref f26) = true)
    (a27 : PySem.W.nsIn K mainGlobals "found_at" = some (some (.ref f27))) (l27 : K.lookup f27 = some ⟨oc27, od27, .func (PySem.W.fnOf "found_at" "found_at" (defArgs (top 41)) (defBody (top 41)) (defScope (top 41)) .none kV27 dc27 pm27 an27 cd27 ct27), sl27⟩) (q27 : PySem.W.codeIn K cd27 "found_at" = true) (k27 : PySem.W.keepIn K (.ref f27) = true)
    (a28 : PySem.W.nsIn K mainGlobals "found" = some (some (.ref f28))) (l28 : K.lookup f28 = some ⟨oc28, od28, .func (PySem.W.fnOf "found" "found" (defArgs (top 46)) (defBody (top 46)) (defScope (top 46)) .none kV28 dc28 pm28 an28 cd28 ct28), sl28⟩) (q28 : PySem.W.codeIn K cd28 "found" = true) (k28 : PySem.W.keepIn K (.ref f28) = true)
    (a29 : PySem.W.nsIn K mainGlobals "_law_bool" = some (some (.ref f29))) (l29 : K.lookup f29 = some ⟨oc29, od29, .func (PySem.W.fnOf "_law_bool" "_law_bool" (defArgs (top 52)) (defBody (top 52)) (defScope (top 52)) .none kV29 dc29 pm29 an29 cd29 ct29), sl29⟩) (q29 : PySem.W.codeIn K cd29 "_law_bool" = true) (k29 : PySem.W.keepIn K (.ref f29) = true)
    (a30 : PySem.W.nsIn K mainGlobals "_law_walked" = some (some (.ref f30))) (l30 : K.lookup f30 = some ⟨oc30, od30, .func (PySem.W.fnOf "_law_walked" "_law_walked" (defArgs (top 57)) (defBody (top 57)) (defScope (top 57)) .none kV30 dc30 pm30 an30 cd30 ct30), sl30⟩) (q30 : PySem.W.codeIn K cd30 "_law_walked" = true) (k30 : PySem.W.keepIn K (.ref f30) = true)
    (a31 : PySem.W.nsIn K mainGlobals "is_rule" = some (some (.ref f31))) (l31 : K.lookup f31 = some ⟨oc31, od31, .func (PySem.W.fnOf "is_rule" "is_rule" (defArgs (top 34)) (defBody (top 34)) (defScope (top 34)) .none kV31 dc31 pm31 an31 cd31 ct31), sl31⟩) (q31 : PySem.W.codeIn K cd31 "is_rule" = true) (k31 : PySem.W.keepIn K (.ref f31) = true)
    (a32 : PySem.W.nsIn K mainGlobals "_law_is_rule" = some (some (.ref f32))) (l32 : K.lookup f32 = some ⟨oc32, od32, .func (PySem.W.fnOf "_law_is_rule" "_law_is_rule" (defArgs (top 63)) (defBody (top 63)) (defScope (top 63)) .none kV32 dc32 pm32 an32 cd32 ct32), sl32⟩) (q32 : PySem.W.codeIn K cd32 "_law_is_rule" = true) (k32 : PySem.W.keepIn K (.ref f32) = true)
    (a33 : PySem.W.nsIn K mainGlobals "_law_row" = some (some (.ref f33))) (l33 : K.lookup f33 = some ⟨oc33, od33, .func (PySem.W.fnOf "_law_row" "_law_row" (defArgs (top 56)) (defBody (top 56)) (defScope (top 56)) .none kV33 dc33 pm33 an33 cd33 ct33), sl33⟩) (q33 : PySem.W.codeIn K cd33 "_law_row" = true) (k33 : PySem.W.keepIn K (.ref f33) = true)
    (a34 : PySem.W.nsIn K mainGlobals "_law_scores" = some (some (.ref f34))) (l34 : K.lookup f34 = some ⟨oc34, od34, .func (PySem.W.fnOf "_law_scores" "_law_scores" (defArgs (top 61)) (defBody (top 61)) (defScope (top 61)) .none kV34 dc34 pm34 an34 cd34 ct34), sl34⟩) (q34 : PySem.W.codeIn K cd34 "_law_scores" = true) (k34 : PySem.W.keepIn K (.ref f34) = true)
    (a35 : PySem.W.nsIn K mainGlobals "_law_found" = some (some (.ref f35))) (l35 : K.lookup f35 = some ⟨oc35, od35, .func (PySem.W.fnOf "_law_found" "_law_found" (defArgs (top 59)) (defBody (top 59)) (defScope (top 59)) .none kV35 dc35 pm35 an35 cd35 ct35), sl35⟩) (q35 : PySem.W.codeIn K cd35 "_law_found" = true) (k35 : PySem.W.keepIn K (.ref f35) = true)
    (a36 : PySem.W.nsIn K mainGlobals "law" = some (some (.ref f36))) (l36 : K.lookup f36 = some ⟨oc36, od36, .func (PySem.W.fnOf "law" "law" (defArgs (top 64)) (defBody (top 64)) (defScope (top 64)) .none kV36 dc36 pm36 an36 (.ref cA) ct36), sl36⟩) (q36 : PySem.W.codeIn K (.ref cA) "law" = true) (k36 : PySem.W.keepIn K (.ref f36) = true)
    (z_all : PySem.W.nsIn K mainGlobals "all" = some none)
    (z_bool : PySem.W.nsIn K mainGlobals "bool" = some none)
    (z_enumerate : PySem.W.nsIn K mainGlobals "enumerate" = some none)
    (z_int : PySem.W.nsIn K mainGlobals "int" = some none)
    (z_isinstance : PySem.W.nsIn K mainGlobals "isinstance" = some none)
    (z_len : PySem.W.nsIn K mainGlobals "len" = some none)
    (z_list : PySem.W.nsIn K mainGlobals "list" = some none)
    (z_max : PySem.W.nsIn K mainGlobals "max" = some none)
    (z_range : PySem.W.nsIn K mainGlobals "range" = some none)
    (z_str : PySem.W.nsIn K mainGlobals "str" = some none)
    (z_tuple : PySem.W.nsIn K mainGlobals "tuple" = some none)
    (z_zip : PySem.W.nsIn K mainGlobals "zip" = some none)
    {t0 : Tok} (c0 : PySem.W.nsIn K mainGlobals "MOST_LINES" = some (some (.int 24 t0)))
    {t1 : Tok} (c1 : PySem.W.nsIn K mainGlobals "SIGNS" = some (some (.str "abcdefghijklmnopqrstuvwxyz" t1)))
    {t2_0 t2_1 : Tok} {g2 : Addr} {dd2 : Option Addr} {nn2 : Nat} {ss2 : Array (Option Value)} (c2 : PySem.W.nsIn K mainGlobals "TIES" = some (some (.ref g2))) (d2 : K.lookup g2 = some ⟨.type "tuple", dd2, .seq #[.str "first" t2_0, .str "last" t2_1] nn2, ss2⟩)
    {g_AnchorError g_InvalidText g_InvalidRow g_InvalidLine g_InvalidPlace g_InvalidNumber g_InvalidFacts g_InvalidLines g_InvalidTexts g_InvalidRule g_InvalidAnchor g_InvalidSeen g_InvalidName g_InvalidFiles g_NoFile g_NoRemark g_WrongState g_NothingToUndo g_TooMany g_InvalidForm g_InvalidWay : Addr}
    (y_AnchorError : PySem.W.nsIn K mainGlobals "AnchorError" = some (some (.ref g_AnchorError)))
    (y_InvalidText : PySem.W.nsIn K mainGlobals "InvalidText" = some (some (.ref g_InvalidText)))
    (y_InvalidRow : PySem.W.nsIn K mainGlobals "InvalidRow" = some (some (.ref g_InvalidRow)))
    (y_InvalidLine : PySem.W.nsIn K mainGlobals "InvalidLine" = some (some (.ref g_InvalidLine)))
    (y_InvalidPlace : PySem.W.nsIn K mainGlobals "InvalidPlace" = some (some (.ref g_InvalidPlace)))
    (y_InvalidNumber : PySem.W.nsIn K mainGlobals "InvalidNumber" = some (some (.ref g_InvalidNumber)))
    (y_InvalidFacts : PySem.W.nsIn K mainGlobals "InvalidFacts" = some (some (.ref g_InvalidFacts)))
    (y_InvalidLines : PySem.W.nsIn K mainGlobals "InvalidLines" = some (some (.ref g_InvalidLines)))
    (y_InvalidTexts : PySem.W.nsIn K mainGlobals "InvalidTexts" = some (some (.ref g_InvalidTexts)))
    (y_InvalidRule : PySem.W.nsIn K mainGlobals "InvalidRule" = some (some (.ref g_InvalidRule)))
    (y_InvalidAnchor : PySem.W.nsIn K mainGlobals "InvalidAnchor" = some (some (.ref g_InvalidAnchor)))
    (y_InvalidSeen : PySem.W.nsIn K mainGlobals "InvalidSeen" = some (some (.ref g_InvalidSeen)))
    (y_InvalidName : PySem.W.nsIn K mainGlobals "InvalidName" = some (some (.ref g_InvalidName)))
    (y_InvalidFiles : PySem.W.nsIn K mainGlobals "InvalidFiles" = some (some (.ref g_InvalidFiles)))
    (y_NoFile : PySem.W.nsIn K mainGlobals "NoFile" = some (some (.ref g_NoFile)))
    (y_NoRemark : PySem.W.nsIn K mainGlobals "NoRemark" = some (some (.ref g_NoRemark)))
    (y_WrongState : PySem.W.nsIn K mainGlobals "WrongState" = some (some (.ref g_WrongState)))
    (y_NothingToUndo : PySem.W.nsIn K mainGlobals "NothingToUndo" = some (some (.ref g_NothingToUndo)))
    (y_TooMany : PySem.W.nsIn K mainGlobals "TooMany" = some (some (.ref g_TooMany)))
    (y_InvalidForm : PySem.W.nsIn K mainGlobals "InvalidForm" = some (some (.ref g_InvalidForm)))
    (y_InvalidWay : PySem.W.nsIn K mainGlobals "InvalidWay" = some (some (.ref g_InvalidWay)))
    (z_ValueError : PySem.W.nsIn K mainGlobals "ValueError" = some none)
    (o1 : PySem.W.specialIn K (.builtin "object.__class__") "__get__" = some (some (.builtin "getset_descriptor.__get__"))) (o2 : PySem.W.takesIn K (.builtin "object.__class__") = some true)
    (t0 : PySem.W.codeHdIn K cA T0 = true) (t1 : K.lookup T0 = none)
    (e0_InvalidAnchor : PySem.W.excIn K g_InvalidAnchor [.type "ValueError", .type "Exception", .type "BaseException", .type "object"] "ValueError.__new__" = true) (e1_InvalidAnchor : PySem.W.keepIn K (.ref g_InvalidAnchor) = true) (e2_InvalidAnchor : PySem.W.subIn K (.ref g_InvalidAnchor) (.type "BaseException") = some true) (e3_InvalidAnchor : PySem.W.typeIn K (.ref g_InvalidAnchor) = some (.type "type"))
    (e4_InvalidAnchor : PySem.W.findIn K (.ref g_InvalidAnchor) "__getattribute__" = some (some (.builtin "BaseException.__getattribute__"))) (e5_InvalidAnchor : PySem.W.findIn K (.ref g_InvalidAnchor) "__getattr__" = some none) (e6_InvalidAnchor : PySem.W.hasDictIn K g_InvalidAnchor = true) (e7_InvalidAnchor : PySem.W.findIn K (.ref g_InvalidAnchor) "__class__" = some (some (.builtin "object.__class__"))) (e8_InvalidAnchor : PySem.W.mroIn K g_InvalidAnchor (.type "object") = some true) (e9_InvalidAnchor : PySem.W.exmOne K (.ref g_InvalidAnchor) (.ref g_AnchorError) = some true)
    (i_InvalidAnchor_InvalidText : PySem.W.kitOne K (.ref g_InvalidAnchor) (.ref g_InvalidText) = some false)
    (i_InvalidAnchor_InvalidRow : PySem.W.kitOne K (.ref g_InvalidAnchor) (.ref g_InvalidRow) = some false)
    (i_InvalidAnchor_InvalidLine : PySem.W.kitOne K (.ref g_InvalidAnchor) (.ref g_InvalidLine) = some false)
    (i_InvalidAnchor_InvalidPlace : PySem.W.kitOne K (.ref g_InvalidAnchor) (.ref g_InvalidPlace) = some false)
    (i_InvalidAnchor_InvalidNumber : PySem.W.kitOne K (.ref g_InvalidAnchor) (.ref g_InvalidNumber) = some false)
    (i_InvalidAnchor_InvalidFacts : PySem.W.kitOne K (.ref g_InvalidAnchor) (.ref g_InvalidFacts) = some false)
    (i_InvalidAnchor_InvalidLines : PySem.W.kitOne K (.ref g_InvalidAnchor) (.ref g_InvalidLines) = some false)
    (i_InvalidAnchor_InvalidTexts : PySem.W.kitOne K (.ref g_InvalidAnchor) (.ref g_InvalidTexts) = some false)
    (i_InvalidAnchor_InvalidRule : PySem.W.kitOne K (.ref g_InvalidAnchor) (.ref g_InvalidRule) = some false)
    (i_InvalidAnchor_InvalidAnchor : PySem.W.kitOne K (.ref g_InvalidAnchor) (.ref g_InvalidAnchor) = some true)
    (i_InvalidAnchor_InvalidSeen : PySem.W.kitOne K (.ref g_InvalidAnchor) (.ref g_InvalidSeen) = some false)
    (i_InvalidAnchor_InvalidName : PySem.W.kitOne K (.ref g_InvalidAnchor) (.ref g_InvalidName) = some false)
    (i_InvalidAnchor_InvalidFiles : PySem.W.kitOne K (.ref g_InvalidAnchor) (.ref g_InvalidFiles) = some false)
    (i_InvalidAnchor_NoFile : PySem.W.kitOne K (.ref g_InvalidAnchor) (.ref g_NoFile) = some false)
    (i_InvalidAnchor_NoRemark : PySem.W.kitOne K (.ref g_InvalidAnchor) (.ref g_NoRemark) = some false)
    (i_InvalidAnchor_WrongState : PySem.W.kitOne K (.ref g_InvalidAnchor) (.ref g_WrongState) = some false)
    (i_InvalidAnchor_NothingToUndo : PySem.W.kitOne K (.ref g_InvalidAnchor) (.ref g_NothingToUndo) = some false)
    (i_InvalidAnchor_TooMany : PySem.W.kitOne K (.ref g_InvalidAnchor) (.ref g_TooMany) = some false)
    (i_InvalidAnchor_InvalidForm : PySem.W.kitOne K (.ref g_InvalidAnchor) (.ref g_InvalidForm) = some false)
    (i_InvalidAnchor_InvalidWay : PySem.W.kitOne K (.ref g_InvalidAnchor) (.ref g_InvalidWay) = some false)
    (i_InvalidAnchor_ValueError : PySem.W.kitOne K (.ref g_InvalidAnchor) (.type "ValueError") = some true) :
    ∃ (c : Addr) (fd : FuncData), PySem.W.codeHdIn K c T0 = true ∧ K.lookup T0 = none ∧ (∀ (s : Shared) (v : Value), BindsTo s fd ⟨[v], []⟩ [("script", v)]) ∧ ∀ base : Heap, K.In base → base.Ns mainGlobals mg → LamX.TabB base mg c T0 → FnOk l.prog w K mg base (L2N.CX l.prog w) 9 fa fd ["script"] (spF ⟨K, mg⟩ 1 (F_law T0)) := by
  have e := hfa.symm.trans (PySem.W.mg_of X G a36)
  cases e
  have x_InvalidAnchor : ExcF ⟨K, mg⟩ "InvalidAnchor" g_InvalidAnchor := ⟨PySem.W.mg_of X G y_InvalidAnchor, e0_InvalidAnchor, e1_InvalidAnchor, e2_InvalidAnchor, e3_InvalidAnchor⟩
  have T : Txt ⟨K, mg⟩ := ⟨PySem.W.mg_none_of X G z_all, PySem.W.mg_none_of X G z_bool, PySem.W.mg_none_of X G z_enumerate, PySem.W.mg_none_of X G z_int, PySem.W.mg_none_of X G z_isinstance, PySem.W.mg_none_of X G z_len, PySem.W.mg_none_of X G z_list, PySem.W.mg_none_of X G z_max, PySem.W.mg_none_of X G z_range, PySem.W.mg_none_of X G z_str, PySem.W.mg_none_of X G z_tuple, PySem.W.mg_none_of X G z_zip, globC_int (PySem.W.mg_of X G c0), globC_str (PySem.W.mg_of X G c1), globC_tup (vs := [.str (txt k_first), .str (txt ['l', 'a', 's', 't'])]) (PySem.W.mg_of X G c2) d2 (by show 2 ≤ 1000; decide) (by exact (.cons ⟨_, rfl⟩ (.cons ⟨_, rfl⟩ .nil))) fun _ => (by exact (.cons (.str k_first) (.cons (.str ['l', 'a', 's', 't']) .nil))), ⟨_, x_InvalidAnchor⟩⟩
  have F0 := fun_mk (st := top 48) l0 q0 k0
  have b0 := F0.binds (ps := ["cell", "turn"]) fun _ _ _ _ _ _ us hl => match us, hl with | [_, _], _ => rfl
  have F1 := fun_mk (st := top 49) l1 q1 k1
  have b1 := F1.binds (ps := ["deck", "limit"]) fun _ _ _ _ _ _ us hl => match us, hl with | [_, _], _ => rfl
  have F2 := fun_mk (st := top 58) l2 q2 k2
  have b2 := F2.binds (ps := ["deck"]) fun _ _ _ _ _ _ us hl => match us, hl with | [_], _ => rfl
  have F3 := fun_mk (st := top 60) l3 q3 k3
  have b3 := F3.binds (ps := ["rule", "text", "line"]) fun _ _ _ _ _ _ us hl => match us, hl with | [_, _, _], _ => rfl
  have F4 := fun_mk (st := top 53) l4 q4 k4
  have b4 := F4.binds (ps := ["e"]) fun _ _ _ _ _ _ us hl => match us, hl with | [_], _ => rfl
  have F5 := fun_mk (st := top 54) l5 q5 k5
  have b5 := F5.binds (ps := ["door"]) fun _ _ _ _ _ _ us hl => match us, hl with | [_], _ => rfl
  have F6 := fun_mk (st := top 62) l6 q6 k6
  have b6 := F6.binds (ps := ["deck"]) fun _ _ _ _ _ _ us hl => match us, hl with | [_], _ => rfl
  have F7 := fun_mk (st := top 55) l7 q7 k7
  have b7 := F7.binds (ps := ["deck", "most"]) fun _ _ _ _ _ _ us hl => match us, hl with | [_, _], _ => rfl
  have F8 := fun_mk (st := top 50) l8 q8 k8
  have b8 := F8.binds (ps := ["thing"]) fun _ _ _ _ _ _ us hl => match us, hl with | [_], _ => rfl
  have F9 := fun_mk (st := top 51) l9 q9 k9
  have b9 := F9.binds (ps := ["told", "due"]) fun _ _ _ _ _ _ us hl => match us, hl with | [_, _], _ => rfl
  have F10 := fun_mk (st := top 26) l10 q10 k10
  have b10 := F10.binds (ps := ["value", "low", "high"]) fun _ _ _ _ _ _ us hl => match us, hl with | [_, _, _], _ => rfl
  have F11 := fun_mk (st := top 29) l11 q11 k11
  have b11 := F11.binds (ps := ["value"]) fun _ _ _ _ _ _ us hl => match us, hl with | [_], _ => rfl
  have F12 := fun_mk (st := top 32) l12 q12 k12
  have b12 := F12.binds (ps := ["value"]) fun _ _ _ _ _ _ us hl => match us, hl with | [_], _ => rfl
  have F13 := fun_mk (st := top 27) l13 q13 k13
  have b13 := F13.binds (ps := ["value"]) fun _ _ _ _ _ _ us hl => match us, hl with | [_], _ => rfl
  have F14 := fun_mk (st := top 42) l14 q14 k14
  have b14 := F14.binds (ps := ["rule", "value"]) fun _ _ _ _ _ _ us hl => match us, hl with | [_, _], _ => rfl
  have F15 := fun_mk (st := top 43) l15 q15 k15
  have b15 := F15.binds (ps := ["rule", "value"]) fun _ _ _ _ _ _ us hl => match us, hl with | [_, _], _ => rfl
  have F16 := fun_mk (st := top 28) l16 q16 k16
  have b16 := F16.binds (ps := ["value"]) fun _ _ _ _ _ _ us hl => match us, hl with | [_], _ => rfl
  have F17 := fun_mk (st := top 30) l17 q17 k17
  have b17 := F17.binds (ps := ["value"]) fun _ _ _ _ _ _ us hl => match us, hl with | [_], _ => rfl
  have F18 := fun_mk (st := top 31) l18 q18 k18
  have b18 := F18.binds (ps := ["text", "value"]) fun _ _ _ _ _ _ us hl => match us, hl with | [_, _], _ => rfl
  have F19 := fun_mk (st := top 35) l19 q19 k19
  have b19 := F19.binds (ps := ["text", "place"]) fun _ _ _ _ _ _ us hl => match us, hl with | [_, _], _ => rfl
  have F20 := fun_mk (st := top 36) l20 q20 k20
  have b20 := F20.binds (ps := ["rule", "text", "place"]) fun _ _ _ _ _ _ us hl => match us, hl with | [_, _, _], _ => rfl
  have F21 := fun_mk (st := top 37) l21 q21 k21
  have b21 := F21.binds (ps := ["rule", "text", "line"]) fun _ _ _ _ _ _ us hl => match us, hl with | [_, _, _], _ => rfl
  have F22 := fun_mk (st := top 44) l22 q22 k22
  have b22 := F22.binds (ps := ["rule", "text", "line"]) fun _ _ _ _ _ _ us hl => match us, hl with | [_, _, _], _ => rfl
  have F23 := fun_mk (st := top 38) l23 q23 k23
  have b23 := F23.binds (ps := ["rule", "anchor", "text", "place"]) fun _ _ _ _ _ _ us hl => match us, hl with | [_, _, _, _], _ => rfl
  have F24 := fun_mk (st := top 39) l24 q24 k24
  have b24 := F24.binds (ps := ["rule", "anchor", "text"]) fun _ _ _ _ _ _ us hl => match us, hl with | [_, _, _], _ => rfl
  have F25 := fun_mk (st := top 45) l25 q25 k25
  have b25 := F25.binds (ps := ["rule", "anchor", "text"]) fun _ _ _ _ _ _ us hl => match us, hl with | [_, _, _], _ => rfl
  have F26 := fun_mk (st := top 40) l26 q26 k26
  have b26 := F26.binds (ps := ["scores", "least", "ties"]) fun _ _ _ _ _ _ us hl => match us, hl with | [_, _, _], _ => rfl
  have F27 := fun_mk (st := top 41) l27 q27 k27
  have b27 := F27.binds (ps := ["rule", "anchor", "text"]) fun _ _ _ _ _ _ us hl => match us, hl with | [_, _, _], _ => rfl
  have F28 := fun_mk (st := top 46) l28 q28 k28
  have b28 := F28.binds (ps := ["rule", "anchor", "text"]) fun _ _ _ _ _ _ us hl => match us, hl with | [_, _, _], _ => rfl
  have F29 := fun_mk (st := top 52) l29 q29 k29
  have b29 := F29.binds (ps := ["got", "due"]) fun _ _ _ _ _ _ us hl => match us, hl with | [_, _], _ => rfl
  have F30 := fun_mk (st := top 57) l30 q30 k30
  have b30 := F30.binds (ps := ["text", "row"]) fun _ _ _ _ _ _ us hl => match us, hl with | [_, _], _ => rfl
  have F31 := fun_mk (st := top 34) l31 q31 k31
  have b31 := F31.binds (ps := ["value"]) fun _ _ _ _ _ _ us hl => match us, hl with | [_], _ => rfl
  have F32 := fun_mk (st := top 63) l32 q32 k32
  have b32 := F32.binds (ps := ["value"]) fun _ _ _ _ _ _ us hl => match us, hl with | [_], _ => rfl
  have F33 := fun_mk (st := top 56) l33 q33 k33
  have b33 := F33.binds (ps := ["deck", "text", "signs", "most"]) fun _ _ _ _ _ _ us hl => match us, hl with | [_, _, _, _], _ => rfl
  have F34 := fun_mk (st := top 61) l34 q34 k34
  have b34 := F34.binds (ps := ["rule", "mark", "text"]) fun _ _ _ _ _ _ us hl => match us, hl with | [_, _, _], _ => rfl
  have F35 := fun_mk (st := top 59) l35 q35 k35
  have b35 := F35.binds (ps := ["rule", "old", "line", "text"]) fun _ _ _ _ _ _ us hl => match us, hl with | [_, _, _, _], _ => rfl
  refine ⟨cA, PySem.W.fnOf "law" "law" (defArgs (top 64)) (defBody (top 64)) (defScope (top 64)) .none kV36 dc36 pm36 an36 (.ref cA) ct36, t0, t1, fun s v => .of_eq rfl, fun base _ _ TB => ?_⟩
  have S__law_deck : FnS l.prog w ⟨K, mg⟩ base 1 "_law_deck" 2 F__law_deck := ⟨_, _, _, PySem.W.mg_of X G a0, k0, b0, ok__law_deck (K := ⟨K, mg⟩) F0 T ⟩
  have S__law_pick : FnS l.prog w ⟨K, mg⟩ base 1 "_law_pick" 2 F__law_pick := ⟨_, _, _, PySem.W.mg_of X G a1, k1, b1, ok__law_pick (K := ⟨K, mg⟩) F1 T ⟩
  have S__law_rule : FnS l.prog w ⟨K, mg⟩ base 2 "_law_rule" 1 F__law_rule := ⟨_, _, _, PySem.W.mg_of X G a2, k2, b2, ok__law_rule (K := ⟨K, mg⟩) F2 T (S__law_pick.mono (by decide))⟩
  have S__law_anchor : FnS l.prog w ⟨K, mg⟩ base 1 "_law_anchor" 3 F__law_anchor := ⟨_, _, _, PySem.W.mg_of X G a3, k3, b3, ok__law_anchor (K := ⟨K, mg⟩) F3 T ⟩
  have TR : TryS l.prog w ⟨K, mg⟩ base 6 nmOf := by
    refine ⟨f5, g_AnchorError, _, _, _, _, _, _, _, _, _, _, _, _, _, PySem.W.mg_of X G a5, k5, l5, q5, b5, ⟨rfl, rfl, rfl, by decide +kernel, rfl, by decide +kernel, by decide +kernel⟩, .mk, ⟨rfl, rfl, rfl, rfl, rfl⟩, PySem.W.mg_of X G y_AnchorError, fun c str h => ?_⟩
    unfold nmOf at h
    split at h
    · rename_i ec; subst ec; cases h
      exact ⟨(ok__law_name_of (K := ⟨K, mg⟩) "InvalidAnchor" k_nInvalidAnchor F4 T ⟨⟨e4_InvalidAnchor, e5_InvalidAnchor, e2_InvalidAnchor, e6_InvalidAnchor, e7_InvalidAnchor, o1, o2, e8_InvalidAnchor⟩, .own g_InvalidText (PySem.W.mg_of X G y_InvalidText) i_InvalidAnchor_InvalidText, .own g_InvalidRow (PySem.W.mg_of X G y_InvalidRow) i_InvalidAnchor_InvalidRow, .own g_InvalidLine (PySem.W.mg_of X G y_InvalidLine) i_InvalidAnchor_InvalidLine, .own g_InvalidPlace (PySem.W.mg_of X G y_InvalidPlace) i_InvalidAnchor_InvalidPlace, .own g_InvalidNumber (PySem.W.mg_of X G y_InvalidNumber) i_InvalidAnchor_InvalidNumber, .own g_InvalidFacts (PySem.W.mg_of X G y_InvalidFacts) i_InvalidAnchor_InvalidFacts, .own g_InvalidLines (PySem.W.mg_of X G y_InvalidLines) i_InvalidAnchor_InvalidLines, .own g_InvalidTexts (PySem.W.mg_of X G y_InvalidTexts) i_InvalidAnchor_InvalidTexts, .own g_InvalidRule (PySem.W.mg_of X G y_InvalidRule) i_InvalidAnchor_InvalidRule, .own g_InvalidAnchor (PySem.W.mg_of X G y_InvalidAnchor) i_InvalidAnchor_InvalidAnchor, .own g_InvalidSeen (PySem.W.mg_of X G y_InvalidSeen) i_InvalidAnchor_InvalidSeen, .own g_InvalidName (PySem.W.mg_of X G y_InvalidName) i_InvalidAnchor_InvalidName, .own g_InvalidFiles (PySem.W.mg_of X G y_InvalidFiles) i_InvalidAnchor_InvalidFiles, .own g_NoFile (PySem.W.mg_of X G y_NoFile) i_InvalidAnchor_NoFile, .own g_NoRemark (PySem.W.mg_of X G y_NoRemark) i_InvalidAnchor_NoRemark, .own g_WrongState (PySem.W.mg_of X G y_WrongState) i_InvalidAnchor_WrongState, .own g_NothingToUndo (PySem.W.mg_of X G y_NothingToUndo) i_InvalidAnchor_NothingToUndo, .own g_TooMany (PySem.W.mg_of X G y_TooMany) i_InvalidAnchor_TooMany, .own g_InvalidForm (PySem.W.mg_of X G y_InvalidForm) i_InvalidAnchor_InvalidForm, .own g_InvalidWay (PySem.W.mg_of X G y_InvalidWay) i_InvalidAnchor_InvalidWay, .ty "ValueError" (PySem.W.mg_none_of X G z_ValueError) (by decide +kernel) (by decide +kernel) i_InvalidAnchor_ValueError⟩ (PySem.W.mg_of X G a4) k4 b4 (PySem.W.mg_of X G y_InvalidAnchor) mean_InvalidAnchor).mono (by decide), _, PySem.W.mg_of X G y_InvalidAnchor, e9_InvalidAnchor⟩
    cases h
  have S__law_no_rules : FnS l.prog w ⟨K, mg⟩ base 3 "_law_no_rules" 1 F__law_no_rules := ⟨_, _, _, PySem.W.mg_of X G a6, k6, b6, ok__law_no_rules (K := ⟨K, mg⟩) F6 T (S__law_rule.mono (by decide)) (S__law_pick.mono (by decide))⟩
  have S__law_text : FnS l.prog w ⟨K, mg⟩ base 2 "_law_text" 2 F__law_text := ⟨_, _, _, PySem.W.mg_of X G a7, k7, b7, ok__law_text (K := ⟨K, mg⟩) F7 T (S__law_pick.mono (by decide))⟩
  have S__law_sort : FnS l.prog w ⟨K, mg⟩ base 1 "_law_sort" 1 F__law_sort := ⟨_, _, _, PySem.W.mg_of X G a8, k8, b8, ok__law_sort (K := ⟨K, mg⟩) F8 T ⟩
  have S__law_same0 : FnS l.prog w ⟨K, mg⟩ base 1 "_law_same" 2 (R__law_same 0) := FnS.zero (PySem.W.mg_of X G a9) k9 b9 rfl
  have S__law_same1 : FnS l.prog w ⟨K, mg⟩ base 2 "_law_same" 2 (R__law_same 1) := ⟨_, _, _, PySem.W.mg_of X G a9, k9, b9, ok__law_same (K := ⟨K, mg⟩) F9 T (S__law_sort.mono (by decide)) S__law_same0⟩
  have S__law_same2 : FnS l.prog w ⟨K, mg⟩ base 3 "_law_same" 2 (R__law_same 2) := ⟨_, _, _, PySem.W.mg_of X G a9, k9, b9, ok__law_same (K := ⟨K, mg⟩) F9 T (S__law_sort.mono (by decide)) S__law_same1⟩
  have S__law_same3 : FnS l.prog w ⟨K, mg⟩ base 4 "_law_same" 2 (R__law_same 3) := ⟨_, _, _, PySem.W.mg_of X G a9, k9, b9, ok__law_same (K := ⟨K, mg⟩) F9 T (S__law_sort.mono (by decide)) S__law_same2⟩
  have S__law_same4 : FnS l.prog w ⟨K, mg⟩ base 5 "_law_same" 2 (R__law_same 4) := ⟨_, _, _, PySem.W.mg_of X G a9, k9, b9, ok__law_same (K := ⟨K, mg⟩) F9 T (S__law_sort.mono (by decide)) S__law_same3⟩
  have S__law_same : FnS l.prog w ⟨K, mg⟩ base 5 "_law_same" 2 F__law_same := S__law_same4
  have S_is_from : FnS l.prog w ⟨K, mg⟩ base 1 "is_from" 3 F_is_from := ⟨_, _, _, PySem.W.mg_of X G a10, k10, b10, ok_is_from (K := ⟨K, mg⟩) F10 T ⟩
  have S_is_rule_of : FnS l.prog w ⟨K, mg⟩ base 2 "is_rule_of" 1 F_is_rule_of := ⟨_, _, _, PySem.W.mg_of X G a11, k11, b11, ok_is_rule_of (K := ⟨K, mg⟩) F11 T (S_is_from.mono (by decide))⟩
  have S_need_rule : FnS l.prog w ⟨K, mg⟩ base 3 "need_rule" 1 F_need_rule := ⟨_, _, _, PySem.W.mg_of X G a12, k12, b12, ok_need_rule (K := ⟨K, mg⟩) F12 T (S_is_rule_of.mono (by decide))⟩
  have S_is_sign : FnS l.prog w ⟨K, mg⟩ base 1 "is_sign" 1 F_is_sign := ⟨_, _, _, PySem.W.mg_of X G a13, k13, b13, ok_is_sign (K := ⟨K, mg⟩) F13 T ⟩
  have S_is_anchor_of : FnS l.prog w ⟨K, mg⟩ base 2 "is_anchor_of" 2 F_is_anchor_of := ⟨_, _, _, PySem.W.mg_of X G a14, k14, b14, ok_is_anchor_of (K := ⟨K, mg⟩) F14 T (S_is_from.mono (by decide)) (S_is_sign.mono (by decide))⟩
  have S_need_anchor : FnS l.prog w ⟨K, mg⟩ base 3 "need_anchor" 2 F_need_anchor := ⟨_, _, _, PySem.W.mg_of X G a15, k15, b15, ok_need_anchor (K := ⟨K, mg⟩) F15 T (S_is_anchor_of.mono (by decide))⟩
  have S_is_text_of : FnS l.prog w ⟨K, mg⟩ base 1 "is_text_of" 1 F_is_text_of := ⟨_, _, _, PySem.W.mg_of X G a16, k16, b16, ok_is_text_of (K := ⟨K, mg⟩) F16 T ⟩
  have S_need_text : FnS l.prog w ⟨K, mg⟩ base 2 "need_text" 1 F_need_text := ⟨_, _, _, PySem.W.mg_of X G a17, k17, b17, ok_need_text (K := ⟨K, mg⟩) F17 T (S_is_text_of.mono (by decide))⟩
  have S_need_line : FnS l.prog w ⟨K, mg⟩ base 2 "need_line" 2 F_need_line := ⟨_, _, _, PySem.W.mg_of X G a18, k18, b18, ok_need_line (K := ⟨K, mg⟩) F18 T (S_is_from.mono (by decide))⟩
  have S_sign_at : FnS l.prog w ⟨K, mg⟩ base 1 "sign_at" 2 F_sign_at := ⟨_, _, _, PySem.W.mg_of X G a19, k19, b19, ok_sign_at (K := ⟨K, mg⟩) F19 T ⟩
  have S_around : FnS l.prog w ⟨K, mg⟩ base 2 "around" 3 F_around := ⟨_, _, _, PySem.W.mg_of X G a20, k20, b20, ok_around (K := ⟨K, mg⟩) F20 T (S_sign_at.mono (by decide))⟩
  have S_anchor_of : FnS l.prog w ⟨K, mg⟩ base 3 "anchor_of" 3 F_anchor_of := ⟨_, _, _, PySem.W.mg_of X G a21, k21, b21, ok_anchor_of (K := ⟨K, mg⟩) F21 T (S_around.mono (by decide))⟩
  have S_anchor : FnS l.prog w ⟨K, mg⟩ base 4 "anchor" 3 F_anchor := ⟨_, _, _, PySem.W.mg_of X G a22, k22, b22, ok_anchor (K := ⟨K, mg⟩) F22 T (S_need_rule.mono (by decide)) (S_need_text.mono (by decide)) (S_need_line.mono (by decide)) (S_anchor_of.mono (by decide))⟩
  have S_score_at : FnS l.prog w ⟨K, mg⟩ base 3 "score_at" 4 F_score_at := ⟨_, _, _, PySem.W.mg_of X G a23, k23, b23, ok_score_at (K := ⟨K, mg⟩) F23 T (S_around.mono (by decide))⟩
  have S_scores_at : FnS l.prog w ⟨K, mg⟩ base 4 "scores_at" 3 F_scores_at := ⟨_, _, _, PySem.W.mg_of X G a24, k24, b24, ok_scores_at (K := ⟨K, mg⟩) F24 T (S_score_at.mono (by decide))⟩
  have S_scores : FnS l.prog w ⟨K, mg⟩ base 5 "scores" 3 F_scores := ⟨_, _, _, PySem.W.mg_of X G a25, k25, b25, ok_scores (K := ⟨K, mg⟩) F25 T (S_need_rule.mono (by decide)) (S_need_anchor.mono (by decide)) (S_need_text.mono (by decide)) (S_scores_at.mono (by decide))⟩
  have S_best_place : FnS l.prog w ⟨K, mg⟩ base 1 "best_place" 3 F_best_place := ⟨_, _, _, PySem.W.mg_of X G a26, k26, b26, ok_best_place (K := ⟨K, mg⟩) F26 T ⟩
  have S_found_at : FnS l.prog w ⟨K, mg⟩ base 5 "found_at" 3 F_found_at := ⟨_, _, _, PySem.W.mg_of X G a27, k27, b27, ok_found_at (K := ⟨K, mg⟩) F27 T (S_scores_at.mono (by decide)) (S_best_place.mono (by decide))⟩
  have S_found : FnS l.prog w ⟨K, mg⟩ base 6 "found" 3 F_found := ⟨_, _, _, PySem.W.mg_of X G a28, k28, b28, ok_found (K := ⟨K, mg⟩) F28 T (S_need_rule.mono (by decide)) (S_need_anchor.mono (by decide)) (S_need_text.mono (by decide)) (S_found_at.mono (by decide))⟩
  have S__law_bool : FnS l.prog w ⟨K, mg⟩ base 1 "_law_bool" 2 F__law_bool := ⟨_, _, _, PySem.W.mg_of X G a29, k29, b29, ok__law_bool (K := ⟨K, mg⟩) F29 T ⟩
  have S__law_walked : FnS l.prog w ⟨K, mg⟩ base 1 "_law_walked" 2 F__law_walked := ⟨_, _, _, PySem.W.mg_of X G a30, k30, b30, ok__law_walked (K := ⟨K, mg⟩) F30 T ⟩
  have S_is_rule : FnS l.prog w ⟨K, mg⟩ base 3 "is_rule" 1 F_is_rule := ⟨_, _, _, PySem.W.mg_of X G a31, k31, b31, ok_is_rule (K := ⟨K, mg⟩) F31 T (S_is_rule_of.mono (by decide))⟩
  have S__law_is_rule : FnS l.prog w ⟨K, mg⟩ base 1 "_law_is_rule" 1 F__law_is_rule := ⟨_, _, _, PySem.W.mg_of X G a32, k32, b32, ok__law_is_rule (K := ⟨K, mg⟩) F32 T ⟩
  have S__law_row : FnS l.prog w ⟨K, mg⟩ base 2 "_law_row" 4 F__law_row := ⟨_, _, _, PySem.W.mg_of X G a33, k33, b33, ok__law_row (K := ⟨K, mg⟩) F33 T (S__law_pick.mono (by decide))⟩
  have S__law_scores : FnS l.prog w ⟨K, mg⟩ base 2 "_law_scores" 3 F__law_scores := ⟨_, _, _, PySem.W.mg_of X G a34, k34, b34, ok__law_scores (K := ⟨K, mg⟩) F34 T (S__law_anchor.mono (by decide))⟩
  have S__law_found : FnS l.prog w ⟨K, mg⟩ base 1 "_law_found" 4 F__law_found := ⟨_, _, _, PySem.W.mg_of X G a35, k35, b35, ok__law_found (K := ⟨K, mg⟩) F35 T ⟩
  exact ok_law (K := ⟨K, mg⟩) l36 q36 T TR TB (S__law_deck.mono (by decide)) (S__law_rule.mono (by decide)) (S__law_no_rules.mono (by decide)) (S_is_rule.mono (by decide)) (S__law_is_rule.mono (by decide)) (S__law_bool.mono (by decide)) (S__law_text.mono (by decide)) (S__law_pick.mono (by decide)) (S__law_anchor.mono (by decide)) (S__law_row.mono (by decide)) (S__law_walked.mono (by decide)) (S_anchor.mono (by decide)) (S__law_same.mono (by decide)) (S_scores.mono (by decide)) (S__law_scores.mono (by decide)) (S_found.mono (by decide)) (S__law_found.mono (by decide))
end DI
namespace DI
/-! running the combinators -/
def Out.andThen (o : Out) (t : SS) : Out := match o with
  | .nx ρ m => t ρ m
  | .rt v m => .rt v m
  | .bk ρ m => .bk ρ m
  | .ct ρ m => .ct ρ m
  | .ex e m => .ex e m
  | .no => .no
@[simp] theorem at_nx (ρ : Env) (m : Mem) (t : SS) : (Out.nx ρ m).andThen t = t ρ m := rfl
@[simp] theorem at_rt (v : PV) (m : Mem) (t : SS) : (Out.rt v m).andThen t = .rt v m := rfl
@[simp] theorem at_bk (ρ : Env) (m : Mem) (t : SS) : (Out.bk ρ m).andThen t = .bk ρ m := rfl
@[simp] theorem at_ct (ρ : Env) (m : Mem) (t : SS) : (Out.ct ρ m).andThen t = .ct ρ m := rfl
@[simp] theorem at_ex (e : Exc) (m : Mem) (t : SS) : (Out.ex e m).andThen t = .ex e m := rfl
def ifO (r : Res PV) (s t : SS) (ρ : Env) : Out := match r with
  | .ok (.d (.bl b)) m => if b = true then s ρ m else t ρ m
  | .ok _ _ => .no
  | .ex e m => .ex e m
  | .no => .no
@[simp] theorem if_t (m : Mem) (s t : SS) (ρ : Env) : ifO (.ok (.d (.bl true)) m) s t ρ = s ρ m := rfl
@[simp] theorem if_f (m : Mem) (s t : SS) (ρ : Env) : ifO (.ok (.d (.bl false)) m) s t ρ = t ρ m := rfl
theorem if_b (b : Bool) (m : Mem) (s t : SS) (ρ : Env) : ifO (.ok (.d (.bl b)) m) s t ρ = if b = true then s ρ m else t ρ m := rfl
/-- a comprehension's turns, on one line -/
def lcG (tg : Tg) (ts : Env → Mem → Res PV) (e : SE) (ρ : Env) (xs : List D) (m : Mem) : Res (List D) := if xs.length ≤ lineL then lcL tg ts e xs ρ m [] else .no
@[simp] theorem lcG_ok {tg : Tg} {ts : Env → Mem → Res PV} {e : SE} {ρ : Env} {xs : List D} {m : Mem} (h : xs.length ≤ 16777216) : lcG tg ts e ρ xs m = lcL tg ts e xs ρ m [] := by
  unfold lcG
  exact if_pos h
/-- range's bounds -/
def r1K (x : PV) (m : Mem) : Res (List D) := match x with
  | .d (.int j) => if fits62 j then .ok (rng 0 j.toNat) m else .no
  | _ => .no
def r2K (x y : PV) (m : Mem) : Res (List D) := match x, y with
  | .d (.int i), .d (.int j) => if fits62 i && fits62 j then .ok (rng i (j - i).toNat) m else .no
  | _, _ => .no
theorem r1K_int {i : Int} (h : fits62 i = true) (m : Mem) : r1K (.d (.int i)) m = .ok (rng 0 i.toNat) m := by
  unfold r1K
  dsimp only
  rw [if_pos h]
theorem r2K_int {i j : Int} (h : fits62 i = true) (h2 : fits62 j = true) (m : Mem) : r2K (.d (.int i)) (.d (.int j)) m = .ok (rng i (j - i).toNat) m := by
  unfold r2K
  dsimp only
  rw [h, h2]
  exact if_pos rfl
section
variable {i : Nat} {ρ : Env} {m : Mem} {a b c : SE} {f g : D → D → Option D} {h : D → Option D} {es : List SE} {is : List Nat} {x y : D} {v : PV} {xs : List D}
@[simp] theorem ev_eV : eV i ρ m = match ρ[i]? with
  | some (some v) => .ok v m
  | _ => .no := rfl
@[simp] theorem ev_eC : eC x ρ m = .ok (.d x) m := rfl
@[simp] theorem ev_e1 : e1 h a ρ m = (a ρ m).bind fun x m => ofO ((vw m x).bind h) m := rfl
@[simp] theorem ev_e2 : e2 f a b ρ m = (a ρ m).bind fun x m => (b ρ m).bind fun y m => ofO ((vw m x).bind fun dx => (vw m y).bind fun dy => f dx dy) m := rfl
@[simp] theorem ev_e2s : e2s f a b ρ m = (a ρ m).bind fun x m => match x with
  | .d (.str s) => (b ρ m).bind fun y m => ofO ((vw m y).bind fun dy => f (.str s) dy) m
  | _ => .no := rfl
@[simp] theorem ev_eAnd : eAnd a b ρ m = (a ρ m).bind (tst fun c m => if c = true then b ρ m else .ok (.d (.bl false)) m) := rfl
@[simp] theorem ev_eOr : eOr a b ρ m = (a ρ m).bind (tst fun c m => if c = true then .ok (.d (.bl true)) m else b ρ m) := rfl
@[simp] theorem ev_eNot : eNot a ρ m = (a ρ m).bind (tst fun c m => .ok (.d (.bl (!c))) m) := rfl
@[simp] theorem ev_eIf : eIf c a b ρ m = (c ρ m).bind (tst fun c m => if c = true then a ρ m else b ρ m) := rfl
@[simp] theorem ev_eCh : eCh f g a b c ρ m = (a ρ m).bind fun x m => (b ρ m).bind fun y m =>
  (ofO ((vw m x).bind fun dx => (vw m y).bind fun dy => f dx dy) m).bind (tst fun t m => if t = true then (c ρ m).bind fun z m => ofO ((vw m y).bind fun dy => (vw m z).bind fun dz => g dy dz) m
    else .ok (.d (.bl false)) m) := rfl
@[simp] theorem ev_args0 : eArgs [] ρ m = .ok [] m := rfl
@[simp] theorem ev_args : eArgs (a :: es) ρ m = (a ρ m).bind fun x m => (eArgs es ρ m).bind fun xs m => .ok (x :: xs) m := rfl
@[simp] theorem ev_eTup : eTup es ρ m = (eArgs es ρ m).bind fun xs m => match datas m xs with
  | some ds => .ok (.d (.tup ds)) m
  | none => .no := rfl
@[simp] theorem ev_nLst : nLst es ρ m = (eArgs es ρ m).bind fun xs m => match datas m xs with
  | some ds => .ok ds m
  | none => .no := rfl
@[simp] theorem ev_eFz {n : NE} : eFz n ρ m = (n ρ m).bind fun xs m => .ok (.d (.lst xs)) m := rfl
@[simp] theorem ev_eNw {n : NE} : eNw n ρ m = (n ρ m).bind fun xs m => .ok (.obj m.length) (m ++ [.l1 xs]) := rfl
@[simp] theorem ev_eCall {F : Fn} : eCall F es ρ m = (eArgs es ρ m).bind fun xs m => F xs m := rfl
@[simp] theorem ev_oN : oN ρ m = .ok none m := rfl
@[simp] theorem ev_oS : oS a ρ m = (a ρ m).bind fun x m => match x with
  | .d (.int i) => .ok (some i) m
  | _ => .no := rfl
@[simp] theorem ev_eSl {f : D → Option Int → Option Int → Option D} {lo hi : OE} : eSl f a lo hi ρ m = (a ρ m).bind fun x m => (lo ρ m).bind fun l m => (hi ρ m).bind fun h m =>
  ofO ((vw m x).bind fun dx => f dx l h) m := rfl
@[simp] theorem ev_tN : tN i v ρ = some (ρ.set i (some v)) := rfl
@[simp] theorem ev_tT : tT is (.d (.tup xs)) ρ = setAll is xs ρ := rfl
@[simp] theorem ev_set0 : setAll [] [] ρ = some ρ := rfl
@[simp] theorem ev_set1 : setAll (i :: is) (x :: xs) ρ = setAll is xs (ρ.set i (some (.d x))) := rfl
@[simp] theorem ev_setPV0 : setPV [] [] ρ = some ρ := rfl
@[simp] theorem ev_setPV1 {vs : List PV} : setPV (i :: is) (v :: vs) ρ = setPV is vs (ρ.set i (some v)) := rfl
@[simp] theorem ev_iV : iV a ρ m = (a ρ m).bind fun x m => match x with
  | .d x => (match itD x with
    | some xs => .ok xs m
    | none => .no)
  | _ => .no := rfl
@[simp] theorem ev_itl : itD (.lst xs) = some xs := rfl
@[simp] theorem ev_itt : itD (.tup xs) = some xs := rfl
@[simp] theorem ev_its {s : List Char} : itD (.str s) = some (s.map fun c => .str [c]) := rfl
@[simp] theorem ev_iR1 : iR1 a ρ m = (a ρ m).bind r1K := rfl
@[simp] theorem ev_iR2 : iR2 a b ρ m = (a ρ m).bind fun x m => (b ρ m).bind (r2K x) := rfl
@[simp] theorem ev_iEnum : iEnum a ρ m = (iV a ρ m).bind fun xs m => .ok (xs.mapIdx fun i x => .tup [.int i, x]) m := rfl
@[simp] theorem ev_iZip : iZip a b ρ m = (a ρ m).bind fun x m => (b ρ m).bind fun y m => match x, y with
  | .d x, .d y => (match itD x, itD y with
    | some xs, some ys => .ok ((xs.zip ys).map fun p => .tup [p.1, p.2]) m
    | _, _ => .no)
  | _, _ => .no := rfl
@[simp] theorem ev_wipe0 : wipeE ρ [] = ρ := rfl
@[simp] theorem ev_wipe1 : wipeE ρ (i :: is) = (wipeE ρ is).set i none := rfl
@[simp] theorem ev_nLc {own : List Nat} {it : IE} {tg : Tg} {ts : Env → Mem → Res PV} {e : SE} : nLc own it tg ts e ρ m = (it ρ m).bind (lcG tg ts e (wipeE ρ own)) := rfl
@[simp] theorem ev_tsY : tsY ρ m = .ok (.d (.bl true)) m := rfl
variable {s t : SS} {e : SE} {tg : Tg} {it : IE}
@[simp] theorem ev_nil : sNil ρ m = .nx ρ m := rfl
@[simp] theorem ev_seq : sSeq s t ρ m = (s ρ m).andThen t := by
  unfold sSeq Out.andThen
  cases s ρ m <;> rfl
@[simp] theorem ev_pass : sPass ρ m = .nx ρ m := rfl
@[simp] theorem ev_brk : sBrk ρ m = .bk ρ m := rfl
@[simp] theorem ev_cnt : sCnt ρ m = .ct ρ m := rfl
@[simp] theorem ev_expr : sExpr e ρ m = (e ρ m).run fun _ m => .nx ρ m := rfl
@[simp] theorem ev_ret : sRet e ρ m = (e ρ m).run fun v m => .rt v m := rfl
@[simp] theorem ev_retN : sRetN ρ m = .rt (.d .non) m := rfl
@[simp] theorem ev_if : sIf c s t ρ m = ifO (c ρ m) s t ρ := by
  unfold sIf ifO
  cases c ρ m with
  | ok v m1 => cases v with
    | d x => cases x <;> rfl
    | obj i => rfl
    | raw a => rfl
  | ex _ _ => rfl
  | no => rfl
@[simp] theorem ev_asg : sAsg tg e ρ m = (e ρ m).run fun v m => match tg v ρ with
  | some ρ1 => .nx ρ1 m
  | none => .no := rfl
@[simp] theorem ev_par : sPar is es ρ m = (eArgs es ρ m).run fun vs m => match setPV is vs ρ with
  | some ρ1 => .nx ρ1 m
  | none => .no := rfl
@[simp] theorem ev_for : sFor tg it s ρ m = (it ρ m).run fun xs m => forL tg s xs ρ m := rfl
@[simp] theorem ev_for0 : forL tg s [] ρ m = .nx ρ m := rfl
theorem ev_for1 : forL tg s (x :: xs) ρ m = match tg (.d x) ρ with
    | none => .no
    | some ρ1 => match s ρ1 m with
      | .nx ρ2 m2 => forL tg s xs ρ2 m2
      | .ct ρ2 m2 => forL tg s xs ρ2 m2
      | .bk ρ2 m2 => .nx ρ2 m2
      | o => o := rfl
theorem for_nx {ρ1 ρ2 : Env} {m2 : Mem} (h1 : tg (.d x) ρ = some ρ1) (h2 : s ρ1 m = .nx ρ2 m2) : forL tg s (x :: xs) ρ m = forL tg s xs ρ2 m2 := by
  rw [ev_for1, h1]
  dsimp only
  rw [h2]
@[simp] theorem ev_app : sApp a e ρ m = (a ρ m).run fun x m => match x with
  | .obj i => (match m[i]? with
    | some (.l1 _) => (e ρ m).run fun y m => (match y, m[i]? with
      | .d y, some (.l1 xs) => if xs.length < lineL then .nx ρ (m.set i (.l1 (xs ++ [y]))) else .no
      | _, _ => .no)
    | _ => .no)
  | _ => .no := rfl
@[simp] theorem ev_setI : sSetI a b e ρ m = (e ρ m).run fun y m => (a ρ m).run fun x m => (b ρ m).run fun k m => match x, k, y with
  | .obj i, .d (.int k), .d y => (match m[i]? with
    | some (.l1 xs) => if 0 ≤ k ∧ k < xs.length then .nx ρ (m.set i (.l1 (xs.set k.toNat y))) else .no
    | _ => .no)
  | _, _, _ => .no := rfl
@[simp] theorem ev_fz : sFz i s ρ m = match ρ[i]? with
  | some (some (.obj j)) => (match m[j]? with
    | some (.l1 xs) => s (ρ.set i (some (.d (.lst xs)))) (m.set j (.fz xs))
    | _ => .no)
  | _ => .no := rfl
@[simp] theorem ev_rtd {n : Nat} : fnR n (.rt (.d x) m) = .ok (.d x) (m.take n) := rfl
@[simp] theorem ev_nx {n : Nat} : fnR n (.nx ρ m) = .ok (.d .non) (m.take n) := rfl
@[simp] theorem ev_rto {n j : Nat} : fnR n (.rt (.obj j) m) = if j < n then .ok (.obj j) (m.take n) else .ok (.obj j) m := rfl
end
theorem small {n : Nat} (h : n ≤ 1000000) : n ≤ lineL := Nat.le_trans h (by decide)
/-- a comprehension whose turns change nothing -/
theorem lcL_pure {tg : Tg} {ts : Env → Mem → Res PV} {e : SE} {ρ : Env} {m : Mem} {p : D → Bool} {g : D → D} : ∀ (xs acc : List D), (∀ x ∈ xs, ∃ ρ1, tg (.d x) ρ = some ρ1 ∧ ts ρ1 m = .ok (.d (.bl (p x))) m ∧ (p x = true → e ρ1 m = .ok (.d (g x)) m)) →
    lcL tg ts e xs ρ m acc = .ok (acc ++ (xs.filter p).map g) m
  | [], acc, _ => by simp [lcL]
  | x :: xs, acc, h => by
    obtain ⟨ρ1, h1, h2, h3⟩ := h x (by simp)
    have ih := lcL_pure (ρ := ρ) (m := m) (tg := tg) (ts := ts) (e := e) (p := p) (g := g) xs
    unfold lcL
    rw [h1]
    dsimp only
    rw [h2]
    cases hp : p x with
    | true =>
      dsimp only
      rw [h3 hp]
      dsimp only
      rw [ih _ fun y hy => h y (by simp [hy]), List.filter_cons_of_pos hp, List.map_cons]
      simp
    | false =>
      dsimp only
      rw [ih _ fun y hy => h y (by simp [hy]), List.filter_cons_of_neg (by simp [hp])]
/-- .. over a mapped list -/
theorem lcL_map {α : Type} {tg : Tg} {ts : Env → Mem → Res PV} {e : SE} {ρ : Env} {m : Mem} {p : α → Bool} {g : α → D} {k : α → D} : ∀ (xs : List α) (acc : List D), (∀ x ∈ xs, ∃ ρ1, tg (.d (k x)) ρ = some ρ1 ∧ ts ρ1 m = .ok (.d (.bl (p x))) m ∧ (p x = true → e ρ1 m = .ok (.d (g x)) m)) →
    lcL tg ts e (xs.map k) ρ m acc = .ok (acc ++ (xs.filter p).map g) m
  | [], acc, _ => by simp [lcL]
  | x :: xs, acc, h => by
    obtain ⟨ρ1, h1, h2, h3⟩ := h x (by simp)
    have ih := lcL_map (ρ := ρ) (m := m) (tg := tg) (ts := ts) (e := e) (p := p) (g := g) (k := k) xs
    rw [List.map_cons]
    unfold lcL
    rw [h1]
    dsimp only
    rw [h2]
    cases hp : p x with
    | true =>
      dsimp only
      rw [h3 hp]
      dsimp only
      rw [ih _ fun y hy => h y (by simp [hy]), List.filter_cons_of_pos hp, List.map_cons]
      simp
    | false =>
      dsimp only
      rw [ih _ fun y hy => h y (by simp [hy]), List.filter_cons_of_neg (by simp [hp])]
end DI
namespace DI
/-! the operations on data of known kinds -/
section
variable {i j : Int} {s t : List Char} {xs ys : List D} {b c : Bool} {x y : D}
@[simp] theorem o_add : dAdd (.int i) (.int j) = some (.int (i + j)) := rfl
@[simp] theorem o_adds : dAdd (.str s) (.str t) = if s.length + t.length ≤ lineL then some (.str (s ++ t)) else none := rfl
@[simp] theorem o_addl : dAdd (.lst xs) (.lst ys) = if xs.length + ys.length ≤ lineL then some (.lst (xs ++ ys)) else none := rfl
@[simp] theorem o_addt : dAdd (.tup xs) (.tup ys) = if xs.length + ys.length ≤ lineL then some (.tup (xs ++ ys)) else none := rfl
@[simp] theorem o_sub : dSub (.int i) (.int j) = some (.int (i - j)) := rfl
@[simp] theorem o_mod : dMod (.int i) (.int j) = if 0 < j then some (.int (i % j)) else none := rfl
@[simp] theorem o_div : dDiv (.int i) (.int j) = if 0 < j ∧ j < 1073741824 then some (.int (i / j)) else none := rfl
@[simp] theorem o_mul : dMulD (.int i) (.int j) = if small64 i || small64 j then some (.int (i * j)) else none := rfl
@[simp] theorem o_mult : dMulD (.tup xs) (.int i) = if -1000000 ≤ i ∧ i ≤ 1000 ∧ xs.length ≤ 1000 then some (.tup (List.replicate i.toNat xs).flatten) else none := rfl
@[simp] theorem o_muls : dMulD (.str s) (.int i) = if -1000000 ≤ i ∧ i ≤ 1000000 ∧ s.length * i.toNat ≤ lineL then some (.str (List.replicate i.toNat s).flatten) else none := rfl
@[simp] theorem o_pow : dPow (.int i) (.int j) = if 0 ≤ j ∧ j ≤ 1000000 ∧ i.natAbs < 2 ^ 64 then some (.int (i ^ j.toNat)) else none := rfl
@[simp] theorem o_neg : dNeg (.int i) = some (.int (-i)) := rfl
@[simp] theorem o_lt : dLt (.int i) (.int j) = some (.bl (decide (i < j))) := rfl
@[simp] theorem o_le : dLe (.int i) (.int j) = some (.bl (decide (i ≤ j))) := rfl
@[simp] theorem o_gt : dGt (.int i) (.int j) = some (.bl (decide (j < i))) := rfl
@[simp] theorem o_ge : dGe (.int i) (.int j) = some (.bl (decide (j ≤ i))) := rfl
@[simp] theorem o_eqi : dEq (.int i) (.int j) = some (.bl (i == j)) := by simp [dEq, D.dep, D.eqv]
@[simp] theorem o_eqs : dEq (.str s) (.str t) = some (.bl (s == t)) := by simp [dEq, D.dep, D.eqv]
@[simp] theorem o_eqb : dEq (.bl b) (.bl c) = some (.bl (b == c)) := by simp [dEq, D.dep, D.eqv]
@[simp] theorem o_nei : dNe (.int i) (.int j) = some (.bl (!(i == j))) := by simp [dNe, D.dep, D.eqv, bne]
@[simp] theorem o_nes : dNe (.str s) (.str t) = some (.bl (!(s == t))) := by simp [dNe, D.dep, D.eqv, bne]
@[simp] theorem o_neb : dNe (.bl b) (.bl c) = some (.bl (!(b == c))) := by simp [dNe, D.dep, D.eqv, bne]
@[simp] theorem o_lens : dLen (.str s) = if s.length ≤ lineL then some (.int s.length) else none := rfl
@[simp] theorem o_lenl : dLen (.lst xs) = some (.int xs.length) := rfl
@[simp] theorem o_lent : dLen (.tup xs) = some (.int xs.length) := rfl
@[simp] theorem o_ixl : dIx (.lst xs) (.int i) = atD xs i := rfl
@[simp] theorem o_ixt : dIx (.tup xs) (.int i) = atD xs i := rfl
@[simp] theorem o_ixs : dIx (.str s) (.int i) = if s.length ≤ lineL then (atD s i).map fun c => .str [c] else none := rfl
@[simp] theorem o_sll {lo hi : Option Int} : dSl (.lst xs) lo hi = some (.lst (cutD xs lo hi)) := rfl
@[simp] theorem o_slt {lo hi : Option Int} : dSl (.tup xs) lo hi = some (.tup (cutD xs lo hi)) := rfl
@[simp] theorem o_sls {lo hi : Option Int} : dSl (.str s) lo hi = if s.length ≤ lineL then some (.str (cutD s lo hi)) else none := rfl
@[simp] theorem o_ini {c : Char} : dIn (.str [c]) (.str s) = some (.bl (s.contains c)) := rfl
@[simp] theorem f_n : flatD .non = true := rfl
@[simp] theorem f_b : flatD (.bl b) = true := rfl
@[simp] theorem f_i : flatD (.int i) = true := rfl
@[simp] theorem f_s : flatD (.str s) = true := rfl
@[simp] theorem q_ss : D.eqv (.str s) (.str t) = (s == t) := by simp [D.eqv]
@[simp] theorem q_ii : D.eqv (.int i) (.int j) = (i == j) := by simp [D.eqv]
@[simp] theorem q_si : D.eqv (.str s) (.int j) = false := by simp [D.eqv]
@[simp] theorem q_is : D.eqv (.int j) (.str s) = false := by simp [D.eqv]
@[simp] theorem o_int_ : dIn (.str s) (.tup ys) = if ys.all flatD then some (.bl (ys.any fun y => D.eqv y (.str s))) else none := by simp [dIn]
@[simp] theorem o_inl_ : dIn (.str s) (.lst ys) = if ys.all flatD then some (.bl (ys.any fun y => D.eqv y (.str s))) else none := by simp [dIn]
@[simp] theorem lineL_ge {n : Nat} : n ≤ lineL ↔ n ≤ 16777216 := Iff.rfl
@[simp] theorem lineL_gt {n : Nat} : n < lineL ↔ n < 16777216 := Iff.rfl
@[simp] theorem o_int : dInt (.int i) = some (.int i) := rfl
@[simp] theorem o_intb : dInt (.bl b) = some (.int (if b then 1 else 0)) := rfl
@[simp] theorem o_isn : dIsN .non = some (.bl true) := rfl
@[simp] theorem o_tupt : dTupOf (.tup xs) = some (.tup xs) := rfl
@[simp] theorem o_tupl : dTupOf (.lst xs) = some (.tup xs) := rfl
@[simp] theorem o_isb : dIsD (.bl b) (.bl c) = some (.bl (b == c)) := rfl
end
section
variable {α : Type} {c : Prop} [Decidable c] {a b : α} {m : Mem} {x y : D} {p q : Bool} {i j : Int} {s t : List Char}
@[simp] theorem ite_ok : (if c then Res.ok a m else Res.ok b m) = Res.ok (if c then a else b) m := by split <;> rfl
@[simp] theorem ite_d : (if c then PV.d x else PV.d y) = PV.d (if c then x else y) := by split <;> rfl
@[simp] theorem ite_bl : (if c then D.bl p else D.bl q) = D.bl (if c then p else q) := by split <;> rfl
@[simp] theorem ite_int : (if c then D.int i else D.int j) = D.int (if c then i else j) := by split <;> rfl
@[simp] theorem ite_str : (if c then D.str s else D.str t) = D.str (if c then s else t) := by split <;> rfl
end
theorem bls_map {α : Type} (p : α → Bool) : ∀ xs : List α, bls (xs.map fun x => .bl (p x)) = some (xs.map p)
  | [] => rfl
  | x :: xs => by simp [bls, bls_map p xs]
@[simp] theorem o_all {α : Type} (p : α → Bool) (xs : List α) : dAll (.lst (xs.map fun x => .bl (p x))) = some (.bl (xs.all p)) := by
  simp only [dAll, bls_map, Option.map_some]
  congr 2
  induction xs with
  | nil => rfl
  | cons x xs ih => simp [ih]
@[simp] theorem o_any {α : Type} (p : α → Bool) (xs : List α) : dAny (.lst (xs.map fun x => .bl (p x))) = some (.bl (xs.any p)) := by
  simp only [dAny, bls_map, Option.map_some]
  congr 2
  induction xs with
  | nil => rfl
  | cons x xs ih => simp [ih]
theorem strsD_map : ∀ xs : List (List Char), strsD (xs.map .str) = some xs
  | [] => rfl
  | x :: xs => by simp [strsD, strsD_map xs]
theorem joinC_nil : ∀ xs : List (List Char), joinC [] xs = xs.flatten
  | [] => rfl
  | [x] => by simp [joinC]
  | x :: y :: r => by
    have := joinC_nil (y :: r)
    simp only [joinC, this]
    simp
theorem len_one : ∀ cs : List Char, ((cs.map fun c => [c]).map List.length).sum = cs.length
  | [] => rfl
  | c :: cs => by
    have := len_one cs
    simp only [List.map_cons, List.sum_cons, List.length_cons, List.length_nil]
    rw [this]
    omega
theorem flat_one : ∀ cs : List Char, (cs.map fun c => [c]).flatten = cs
  | [] => rfl
  | c :: cs => by
    rw [List.map_cons, List.flatten_cons, flat_one cs]
    rfl
/-- ''.join of single signs -/
theorem join_signs (cs : List Char) (h : cs.length ≤ lineL) : dJoin (.str []) (.lst (cs.map fun c => .str [c])) = some (.str cs) := by
  have e : cs.map (fun c => D.str [c]) = (cs.map fun c => [c]).map .str := by rw [List.map_map]; rfl
  rw [e]
  unfold dJoin
  dsimp only
  rw [strsD_map]
  show (if _ then _ else _) = _
  rw [len_one, joinC_nil, flat_one]
  simp [h]
theorem atD_ofNat {α : Type} {xs : List α} {n : Nat} : atD xs (n : Int) = xs[n]? := by
  simp [atD]
@[simp] theorem atD_0 {α : Type} {x : α} {xs : List α} : atD (x :: xs) 0 = some x := rfl
@[simp] theorem atD_1 {α : Type} {x y : α} {xs : List α} : atD (x :: y :: xs) 1 = some y := rfl
@[simp] theorem atD_2 {α : Type} {x y z : α} {xs : List α} : atD (x :: y :: z :: xs) 2 = some z := rfl
@[simp] theorem atD_3 {α : Type} {x y z u : α} {xs : List α} : atD (x :: y :: z :: u :: xs) 3 = some u := rfl
@[simp] theorem atD_4 {α : Type} {x y z u v : α} {xs : List α} : atD (x :: y :: z :: u :: v :: xs) 4 = some v := rfl
end DI
namespace DI
/-! small lemmas on lists -/
theorem cut_from {α : Type} (xs : List α) (k : Nat) : cutD xs (some (k : Int)) none = xs.drop k := by
  unfold cutD sixD
  have h : ¬ ((k : Int) < 0) := by omega
  simp only [h, if_false, Int.toNat_natCast]
  have e : xs.drop (min k xs.length) = xs.drop k := by
    by_cases h : k ≤ xs.length
    · rw [Nat.min_eq_left h]
    · rw [Nat.min_eq_right (by omega), List.drop_eq_nil_of_le (Nat.le_refl _), List.drop_eq_nil_of_le (by omega)]
  rw [e, List.take_of_length_le]
  rw [List.length_drop]
  omega
theorem cut_to {α : Type} (xs : List α) (k : Nat) : cutD xs none (some (k : Int)) = xs.take k := by
  unfold cutD sixD
  have h : ¬ ((k : Int) < 0) := by omega
  simp only [h, if_false, Int.toNat_natCast, List.drop_zero, Nat.sub_zero]
  by_cases h : k ≤ xs.length
  · rw [Nat.min_eq_left h]
  · rw [Nat.min_eq_right (by omega), List.take_of_length_le (Nat.le_refl _), List.take_of_length_le (by omega)]
theorem cut_1 {α : Type} (xs : List α) : cutD xs (some 1) none = xs.drop 1 := cut_from xs 1
@[simp] theorem get_last {α : Type} {m : List α} {x : α} : (m ++ [x])[m.length]? = some x := by simp
@[simp] theorem set_last {α : Type} {m : List α} {x y : α} : (m ++ [x]).set m.length y = m ++ [y] := by simp
theorem take_last {α : Type} {m l : List α} : (m ++ l).take m.length = m := by simp
theorem fits62_nat {n : Nat} (h : n ≤ 1000000) : fits62 (n : Int) = true := by
  unfold fits62
  exact decide_eq_true (by omega)
theorem fits62_int {i : Int} (h : -1000000 ≤ i ∧ i ≤ 1000000) : fits62 i = true := by
  unfold fits62
  exact decide_eq_true (by omega)
theorem atD_nat {α : Type} {xs : List α} {n : Nat} : atD xs (n : Int) = xs[n]? := atD_ofNat
/-- a loop over a mapped list, its state told by a fold; W: what else holds -/
theorem for_fold {α β : Type} {tg : Tg} {b : SS} {k : α → D} (env : β → Option PV → Env) (mem : β → Mem) (st : β → α → β) (I : List α → β → Prop)
    (h : ∀ x xs s v, I (x :: xs) s → ∃ ρ1 v', tg (.d (k x)) (env s v) = some ρ1 ∧ b ρ1 (mem s) = .nx (env (st s x) v') (mem (st s x)) ∧ I xs (st s x)) :
    ∀ (xs : List α) (s : β) (v : Option PV), I xs s → ∃ v', forL tg b (xs.map k) (env s v) (mem s) = .nx (env (xs.foldl st s) v') (mem (xs.foldl st s)) ∧ I [] (xs.foldl st s)
  | [], s, v, i => ⟨v, rfl, i⟩
  | x :: xs, s, v, i => by
    obtain ⟨ρ1, v', h1, h2, h3⟩ := h x xs s v i
    obtain ⟨v2, h4, h5⟩ := for_fold env mem st I h xs (st s x) v' h3
    exact ⟨v2, by rw [List.map_cons, for_nx h1 h2, h4, List.foldl_cons], by rw [List.foldl_cons]; exact h5⟩
theorem filter_all {α : Type} : ∀ xs : List α, xs.filter (fun _ => true) = xs
  | [] => rfl
  | x :: xs => by rw [List.filter_cons_of_pos rfl, filter_all xs]
theorem lcL_all {α : Type} {tg : Tg} {e : SE} {ρ : Env} {m : Mem} {g : α → D} {k : α → D} (xs : List α) (h : ∀ x ∈ xs, ∃ ρ1, tg (.d (k x)) ρ = some ρ1 ∧ e ρ1 m = .ok (.d (g x)) m) :
    lcL tg tsY e (xs.map k) ρ m [] = .ok (xs.map g) m := by
  rw [lcL_map (p := fun _ => true) (g := g) _ _ fun x hx => ?_, filter_all, List.nil_append]
  obtain ⟨ρ1, h1, h2⟩ := h x hx
  exact ⟨ρ1, h1, rfl, fun _ => h2⟩
end DI
namespace DI
/-- a loop that keeps what holds of the slots and the memory -/
theorem for_inv {tg : Tg} {s : SS} (I : Env → Mem → Prop) : ∀ (xs : List D), (∀ x ∈ xs, ∀ ρ m, I ρ m → ∃ ρ1 ρ2 m2, tg (.d x) ρ = some ρ1 ∧ s ρ1 m = .nx ρ2 m2 ∧ I ρ2 m2) → ∀ ρ m, I ρ m → ∃ ρ' m', forL tg s xs ρ m = .nx ρ' m' ∧ I ρ' m'
  | [], _, ρ, m, i => ⟨ρ, m, rfl, i⟩
  | x :: xs, h, ρ, m, i => by
    obtain ⟨ρ1, ρ2, m2, h1, h2, h3⟩ := h x (by simp) ρ m i
    obtain ⟨ρ3, m3, h4, h5⟩ := for_inv I xs (fun y hy => h y (by simp [hy])) ρ2 m2 h3
    exact ⟨ρ3, m3, by rw [for_nx h1 h2, h4], h5⟩
theorem flatten_rep {α : Type} (x : α) : ∀ k : Nat, (List.replicate k [x]).flatten = List.replicate k x
  | 0 => rfl
  | k + 1 => by rw [List.replicate_succ, List.flatten_cons, flatten_rep x k]; rfl
end DI
/-! Moves from a text to another one: plain Lean. -/
namespace DI
/-- fates, ascending, from a place on -/
def Mn (k : Nat) : Nat → List Int → Prop
  | lo, [] => lo ≤ k
  | lo, f :: fs => (f = -1 ∧ Mn k lo fs) ∨ ∃ j : Nat, f = (j : Int) ∧ lo ≤ j ∧ j < k ∧ Mn k (j + 1) fs
/-- gone, new, kept -/
inductive Mv where
  | g (c : Char) | n (c : Char) | k (c d : Char)
def mSrc : List Mv → List Char
  | [] => []
  | .g c :: r => c :: mSrc r
  | .n _ :: r => mSrc r
  | .k c _ :: r => c :: mSrc r
def mDst : List Mv → List Char
  | [] => []
  | .g _ :: r => mDst r
  | .n c :: r => c :: mDst r
  | .k _ d :: r => d :: mDst r
def mFat : Nat → List Mv → List Int
  | _, [] => []
  | p, .g _ :: r => -1 :: mFat p r
  | p, .n _ :: r => mFat (p + 1) r
  | p, .k _ _ :: r => (p : Int) :: mFat (p + 1) r
def mPr : List Mv → Nat
  | [] => 0
  | .g _ :: r => mPr r + 1
  | .n _ :: r => mPr r + 1
  | .k c d :: r => mPr r + if c = d then 0 else 1
def mSw : List Mv → List Mv
  | [] => []
  | .g c :: r => .n c :: mSw r
  | .n c :: r => .g c :: mSw r
  | .k c d :: r => .k d c :: mSw r
theorem mn_mFat : ∀ (ms : List Mv) (p : Nat), Mn (p + (mDst ms).length) p (mFat p ms)
  | [], p => by simp [mDst, mFat, Mn]
  | .g c :: r, p => .inl ⟨rfl, mn_mFat r p⟩
  | .n c :: r, p => by
    have h := mn_mFat r (p + 1)
    have up : ∀ (fs : List Int) (k lo : Nat), Mn k (lo + 1) fs → Mn k lo fs := by
      intro fs
      induction fs with
      | nil => intro k lo h; show lo ≤ k; have : lo + 1 ≤ k := h; omega
      | cons f fs ih =>
        intro k lo h
        rcases h with ⟨h1, h2⟩ | ⟨j, h1, h2, h3, h4⟩
        · exact .inl ⟨h1, ih k lo h2⟩
        · exact .inr ⟨j, h1, by omega, h3, h4⟩
    have e : p + (mDst (.n c :: r)).length = p + 1 + (mDst r).length := by simp [mDst]; omega
    rw [e]
    exact up _ _ _ h
  | .k c d :: r, p => by
    have h := mn_mFat r (p + 1)
    have e : p + (mDst (.k c d :: r)).length = p + 1 + (mDst r).length := by simp [mDst]; omega
    rw [e]
    exact .inr ⟨p, rfl, Nat.le_refl _, by omega, h⟩
theorem mFat_len : ∀ (ms : List Mv) (p : Nat), (mFat p ms).length = (mSrc ms).length
  | [], p => rfl
  | .g c :: r, p => by simp [mFat, mSrc, mFat_len r p]
  | .n c :: r, p => by simp [mFat, mSrc, mFat_len r (p + 1)]
  | .k c d :: r, p => by simp [mFat, mSrc, mFat_len r (p + 1)]
theorem mFat_ge : ∀ (ms : List Mv) (p : Nat), ∀ f ∈ mFat p ms, f = -1 ∨ (p : Int) ≤ f
  | [], p, f, h => by simp [mFat] at h
  | .g c :: r, p, f, h => by
    rcases List.mem_cons.mp h with rfl | h
    · exact .inl rfl
    · exact mFat_ge r p f h
  | .n c :: r, p, f, h => by
    rcases mFat_ge r (p + 1) f h with h | h
    · exact .inl h
    · exact .inr (by omega)
  | .k c d :: r, p, f, h => by
    rcases List.mem_cons.mp h with rfl | h
    · exact .inr (Int.le_refl _)
    · rcases mFat_ge r (p + 1) f h with h | h
      · exact .inl h
      · exact .inr (by omega)
theorem mSrc_sw : ∀ ms : List Mv, mSrc (mSw ms) = mDst ms
  | [] => rfl
  | .g c :: r => by simp [mSw, mSrc, mDst, mSrc_sw r]
  | .n c :: r => by simp [mSw, mSrc, mDst, mSrc_sw r]
  | .k c d :: r => by simp [mSw, mSrc, mDst, mSrc_sw r]
theorem mSw_sw : ∀ ms : List Mv, mSw (mSw ms) = ms
  | [] => rfl
  | .g c :: r => by simp [mSw, mSw_sw r]
  | .n c :: r => by simp [mSw, mSw_sw r]
  | .k c d :: r => by simp [mSw, mSw_sw r]
theorem mDst_sw (ms : List Mv) : mDst (mSw ms) = mSrc ms := by
  have := mSrc_sw (mSw ms)
  rw [mSw_sw] at this
  exact this.symm
theorem mPr_sw : ∀ ms : List Mv, mPr (mSw ms) = mPr ms
  | [] => rfl
  | .g c :: r => by simp [mSw, mPr, mPr_sw r]
  | .n c :: r => by simp [mSw, mPr, mPr_sw r]
  | .k c d :: r => by
    have : (if d = c then 0 else 1) = (if c = d then 0 else 1) := by
      by_cases h : c = d
      · subst h; rfl
      · rw [if_neg h, if_neg (fun e => h e.symm)]
    simp [mSw, mPr, mPr_sw r, this]
/-! the inverse map -/
/-- the first line, from a on, that has a fate -/
def ixA (x : Int) : Nat → List Int → Int
  | _, [] => -1
  | a, f :: fs => if f = x then (a : Int) else ixA x (a + 1) fs
def inv (fs : List Int) (k : Nat) : List Int := (List.range k).map fun (p : Nat) => ixA (p : Int) 0 fs
theorem ixA_no {x : Int} : ∀ (fs : List Int) (a : Nat), (∀ f ∈ fs, f ≠ x) → ixA x a fs = -1
  | [], a, _ => rfl
  | f :: fs, a, h => by
    unfold ixA
    rw [if_neg (h f (by simp)), ixA_no fs (a + 1) fun g hg => h g (by simp [hg])]
theorem mFat_sw : ∀ (ms : List Mv) (p a : Nat), mFat a (mSw ms) = (List.range (mDst ms).length).map fun (q : Nat) => ixA ((p + q : Nat) : Int) a (mFat p ms)
  | [], p, a => rfl
  | .g c :: r, p, a => by
    show mFat (a + 1) (mSw r) = (List.range (mDst r).length).map fun (q : Nat) => ixA ((p + q : Nat) : Int) a (-1 :: mFat p r)
    rw [mFat_sw r p (a + 1)]
    refine List.map_congr_left fun q _ => ?_
    rw [show ixA ((p + q : Nat) : Int) a (-1 :: mFat p r) = ixA ((p + q : Nat) : Int) (a + 1) (mFat p r) from if_neg (by omega)]
  | .n c :: r, p, a => by
    show -1 :: mFat a (mSw r) = (List.range (mDst r).length.succ).map fun (q : Nat) => ixA ((p + q : Nat) : Int) a (mFat (p + 1) r)
    rw [List.range_succ_eq_map, List.map_cons, List.map_map, mFat_sw r (p + 1) a]
    congr 1
    · rw [ixA_no]
      intro f hf z
      rcases mFat_ge r (p + 1) f hf with h | h <;> omega
    · refine List.map_congr_left fun q _ => ?_
      show _ = ixA ((p + (q + 1) : Nat) : Int) a _
      rw [show p + 1 + q = p + (q + 1) by omega]
  | .k c d :: r, p, a => by
    show (a : Int) :: mFat (a + 1) (mSw r) = (List.range (mDst r).length.succ).map fun (q : Nat) => ixA ((p + q : Nat) : Int) a ((p : Int) :: mFat (p + 1) r)
    rw [List.range_succ_eq_map, List.map_cons, List.map_map, mFat_sw r (p + 1) (a + 1)]
    congr 1
    · exact (if_pos (by simp)).symm
    · refine List.map_congr_left fun q _ => ?_
      show _ = ixA ((p + (q + 1) : Nat) : Int) a _
      rw [show ixA ((p + (q + 1) : Nat) : Int) a ((p : Int) :: mFat (p + 1) r) = ixA ((p + (q + 1) : Nat) : Int) (a + 1) (mFat (p + 1) r) from if_neg (by omega), show p + 1 + q = p + (q + 1) by omega]
theorem mFat_inv (ms : List Mv) : mFat 0 (mSw ms) = inv (mFat 0 ms) (mDst ms).length := by
  rw [mFat_sw ms 0 0]
  unfold inv
  refine List.map_congr_left fun q _ => ?_
  rw [Nat.zero_add]
/-! two one behind the other -/
def led (f g : List Int) : List Int := f.map fun e => if e < 0 then -1 else g.getD e.toNat (-1)
def comp : List Mv → List Mv → List Mv
  | .g c :: m1, m2 => .g c :: comp m1 m2
  | m1, .n d :: m2 => .n d :: comp m1 m2
  | .n c :: m1, .g _ :: m2 => comp m1 m2
  | .n c :: m1, .k _ d :: m2 => .n d :: comp m1 m2
  | .k b c :: m1, .g _ :: m2 => .g b :: comp m1 m2
  | .k b c :: m1, .k _ d :: m2 => .k b d :: comp m1 m2
  | [], _ => []
  | .n c :: _, [] => []
  | .k b c :: _, [] => []
termination_by m1 m2 => m1.length + m2.length
theorem comp_all : ∀ (n : Nat) (m1 m2 : List Mv) (p r : Nat), m1.length + m2.length ≤ n → mDst m1 = mSrc m2 →
    mSrc (comp m1 m2) = mSrc m1 ∧ mDst (comp m1 m2) = mDst m2 ∧ mPr (comp m1 m2) ≤ mPr m1 + mPr m2 ∧ mFat r (comp m1 m2) = (mFat p m1).map fun e => if e < 0 then -1 else (mFat r m2).getD (e.toNat - p) (-1)
  | 0, m1, m2, p, r, hl, h => by
    have h1 : m1 = [] := List.length_eq_zero_iff.mp (by omega)
    have h2 : m2 = [] := List.length_eq_zero_iff.mp (by omega)
    subst h1 h2
    simp [comp, mSrc, mDst, mPr, mFat]
  | n + 1, m1, m2, p, r, hl, h => by
    have sh : ∀ (xs : List Int) (m1 : List Mv) (p : Nat) (x : Int), (mFat (p + 1) m1).map (fun e => if e < 0 then -1 else xs.getD (e.toNat - (p + 1)) (-1)) = (mFat (p + 1) m1).map fun e => if e < 0 then -1 else (x :: xs).getD (e.toNat - p) (-1) := by
      intro xs m1 p x
      refine List.map_congr_left fun e he => ?_
      by_cases hn : e < 0
      · rw [if_pos hn, if_pos hn]
      · rw [if_neg hn, if_neg hn]
        rcases mFat_ge m1 (p + 1) e he with z | z
        · omega
        · obtain ⟨q, hq⟩ : ∃ q, e.toNat - p = q + 1 := ⟨e.toNat - p - 1, by omega⟩
          rw [hq, show e.toNat - (p + 1) = q by omega]
          rfl
    match m1, m2, hl, h with
    | .g c :: m1, m2, hl, h =>
      obtain ⟨a1, a2, a3, a4⟩ := comp_all n m1 m2 p r (by simp at hl; omega) h
      have e : comp (.g c :: m1) m2 = .g c :: comp m1 m2 := by rw [comp]
      rw [e]
      refine ⟨by simp [mSrc, a1], by simp [mDst, a2], by simp [mPr]; omega, ?_⟩
      show -1 :: mFat r (comp m1 m2) = _
      rw [a4]
      rfl
    | [], .n d :: m2, hl, h =>
      obtain ⟨a1, a2, a3, a4⟩ := comp_all n [] m2 p (r + 1) (by simp at hl ⊢; omega) h
      have e : comp [] (.n d :: m2) = .n d :: comp [] m2 := by rw [comp]; simp
      rw [e]
      exact ⟨by simp [mSrc, a1], by simp [mDst, a2], by simp [mPr] at a3 ⊢; omega, a4⟩
    | .n c :: m1, .n d :: m2, hl, h =>
      obtain ⟨a1, a2, a3, a4⟩ := comp_all n (.n c :: m1) m2 p (r + 1) (by simp at hl ⊢; omega) h
      have e : comp (.n c :: m1) (.n d :: m2) = .n d :: comp (.n c :: m1) m2 := by rw [comp]; simp
      rw [e]
      exact ⟨by simp [mSrc, a1], by simp [mDst, a2], by simp [mPr] at a3 ⊢; omega, a4⟩
    | .k b c :: m1, .n d :: m2, hl, h =>
      obtain ⟨a1, a2, a3, a4⟩ := comp_all n (.k b c :: m1) m2 p (r + 1) (by simp at hl ⊢; omega) h
      have e : comp (.k b c :: m1) (.n d :: m2) = .n d :: comp (.k b c :: m1) m2 := by rw [comp]; simp
      rw [e]
      exact ⟨by simp [mSrc, a1], by simp [mDst, a2], by simp [mPr] at a3 ⊢; omega, a4⟩
    | .n c :: m1, .g c2 :: m2, hl, h =>
      have h' : c = c2 ∧ mDst m1 = mSrc m2 := by simpa [mDst, mSrc] using h
      obtain ⟨a1, a2, a3, a4⟩ := comp_all n m1 m2 (p + 1) r (by simp at hl; omega) h'.2
      have e : comp (.n c :: m1) (.g c2 :: m2) = comp m1 m2 := by rw [comp]
      rw [e]
      refine ⟨by simp [mSrc, a1], by simp [mDst, a2], by simp [mPr]; omega, ?_⟩
      rw [a4]
      exact sh _ _ _ _
    | .n c :: m1, .k c2 d :: m2, hl, h =>
      have h' : c = c2 ∧ mDst m1 = mSrc m2 := by simpa [mDst, mSrc] using h
      obtain ⟨a1, a2, a3, a4⟩ := comp_all n m1 m2 (p + 1) (r + 1) (by simp at hl; omega) h'.2
      have e : comp (.n c :: m1) (.k c2 d :: m2) = .n d :: comp m1 m2 := by rw [comp]
      rw [e]
      refine ⟨by simp [mSrc, a1], by simp [mDst, a2], by simp [mPr]; omega, ?_⟩
      show mFat (r + 1) (comp m1 m2) = _
      rw [a4]
      exact sh _ _ _ _
    | .k b c :: m1, .g c2 :: m2, hl, h =>
      have h' : c = c2 ∧ mDst m1 = mSrc m2 := by simpa [mDst, mSrc] using h
      obtain ⟨a1, a2, a3, a4⟩ := comp_all n m1 m2 (p + 1) r (by simp at hl; omega) h'.2
      have e : comp (.k b c :: m1) (.g c2 :: m2) = .g b :: comp m1 m2 := by rw [comp]
      rw [e]
      refine ⟨by simp [mSrc, a1], by simp [mDst, a2], by simp [mPr]; omega, ?_⟩
      show -1 :: mFat r (comp m1 m2) = ((p : Int) :: mFat (p + 1) m1).map fun e => if e < 0 then -1 else (-1 :: mFat r m2).getD (e.toNat - p) (-1)
      rw [a4, List.map_cons, sh (mFat r m2) m1 p (-1)]
      congr 1
      rw [if_neg (by omega)]
      simp
    | .k b c :: m1, .k c2 d :: m2, hl, h =>
      have h' : c = c2 ∧ mDst m1 = mSrc m2 := by simpa [mDst, mSrc] using h
      obtain ⟨a1, a2, a3, a4⟩ := comp_all n m1 m2 (p + 1) (r + 1) (by simp at hl; omega) h'.2
      have e : comp (.k b c :: m1) (.k c2 d :: m2) = .k b d :: comp m1 m2 := by rw [comp]
      rw [e]
      refine ⟨by simp [mSrc, a1], by simp [mDst, a2], ?_, ?_⟩
      · obtain ⟨rfl, _⟩ := h'
        simp only [mPr]
        by_cases h1 : b = d
        · rw [if_pos h1]; omega
        · rw [if_neg h1]
          by_cases h2 : b = c
          · have : ¬ c = d := fun z => h1 (h2.trans z)
            rw [if_neg this]; omega
          · rw [if_neg h2]; omega
      · show (r : Int) :: mFat (r + 1) (comp m1 m2) = ((p : Int) :: mFat (p + 1) m1).map fun e => if e < 0 then -1 else ((r : Int) :: mFat (r + 1) m2).getD (e.toNat - p) (-1)
        rw [a4, List.map_cons, sh (mFat (r + 1) m2) m1 p r]
        congr 1
        rw [if_neg (by omega)]
        simp
    | [], [], hl, h => simp [comp, mSrc, mDst, mPr, mFat]
    | [], .g c :: m2, hl, h => simp [mDst, mSrc] at h
    | [], .k c d :: m2, hl, h => simp [mDst, mSrc] at h
    | .n c :: m1, [], hl, h => simp [mDst, mSrc] at h
    | .k c d :: m1, [], hl, h => simp [mDst, mSrc] at h
/-! the moves of fates -/
def mvF : Nat → List Char → List Char → List Int → List Mv
  | p, c :: one, oth, f :: fs => if f = -1 then .g c :: mvF p one oth fs else (oth.take (f.toNat - p)).map .n ++ (match oth.drop (f.toNat - p) with
    | d :: r => .k c d :: mvF (f.toNat + 1) one r fs
    | [] => [])
  | _, _, oth, _ => oth.map .n
theorem src_n : ∀ cs : List Char, ∀ r, mSrc (cs.map .n ++ r) = mSrc r
  | [], r => rfl
  | c :: cs, r => by simp [mSrc, src_n cs r]
theorem dst_n : ∀ cs : List Char, ∀ r, mDst (cs.map .n ++ r) = cs ++ mDst r
  | [], r => rfl
  | c :: cs, r => by simp [mDst, dst_n cs r]
theorem fat_n : ∀ cs : List Char, ∀ r p, mFat p (cs.map .n ++ r) = mFat (p + cs.length) r
  | [], r, p => rfl
  | c :: cs, r, p => by
    have := fat_n cs r (p + 1)
    simp only [List.map_cons, List.cons_append, List.length_cons, mFat, this]
    congr 1
    omega
theorem pr_n : ∀ cs : List Char, ∀ r, mPr (cs.map .n ++ r) = cs.length + mPr r
  | [], r => by simp
  | c :: cs, r => by
    have := pr_n cs r
    simp only [List.map_cons, List.cons_append, List.length_cons, mPr, this]
    omega
theorem src_n' (cs : List Char) : mSrc (cs.map .n) = [] := by have := src_n cs []; simpa [mSrc] using this
theorem dst_n' (cs : List Char) : mDst (cs.map .n) = cs := by have := dst_n cs []; simpa [mDst] using this
theorem fat_n' (cs : List Char) (p : Nat) : mFat p (cs.map .n) = [] := by have := fat_n cs [] p; simpa [mFat] using this
theorem pr_n' (cs : List Char) : mPr (cs.map .n) = cs.length := by have := pr_n cs []; simpa [mPr] using this
theorem mvF_cons (p : Nat) (c : Char) (one oth : List Char) (f : Int) (fs : List Int) : mvF p (c :: one) oth (f :: fs) = if f = -1 then .g c :: mvF p one oth fs else (oth.take (f.toNat - p)).map .n ++ (match oth.drop (f.toNat - p) with
    | d :: r => .k c d :: mvF (f.toNat + 1) one r fs
    | [] => []) := by rw [mvF]
theorem mvF_all : ∀ (fs : List Int) (p : Nat) (one oth : List Char), Mn (p + oth.length) p fs → fs.length = one.length → mSrc (mvF p one oth fs) = one ∧ mDst (mvF p one oth fs) = oth ∧ mFat p (mvF p one oth fs) = fs
  | [], p, one, oth, _, hl => by
    have : one = [] := List.length_eq_zero_iff.mp hl.symm
    subst this
    have e : mvF p [] oth [] = oth.map .n := by rw [mvF]; simp
    rw [e]
    exact ⟨src_n' _, dst_n' _, fat_n' _ _⟩
  | f :: fs, p, [], oth, _, hl => by simp at hl
  | f :: fs, p, c :: one, oth, hm, hl => by
    simp only [List.length_cons, Nat.add_right_cancel_iff] at hl
    rw [mvF_cons]
    rcases hm with ⟨rfl, hm⟩ | ⟨j, rfl, h1, h2, hm⟩
    · obtain ⟨a1, a2, a3⟩ := mvF_all fs p one oth hm hl
      rw [if_pos rfl]
      exact ⟨by simp [mSrc, a1], by simp [mDst, a2], by simp [mFat, a3]⟩
    · rw [if_neg (by omega), Int.toNat_natCast]
      have hd : j - p < oth.length := by omega
      rw [List.drop_eq_getElem_cons hd]
      dsimp only
      have hdl : (oth.drop (j - p + 1)).length = oth.length - (j - p + 1) := List.length_drop
      obtain ⟨a1, a2, a3⟩ := mvF_all fs (j + 1) one (oth.drop (j - p + 1)) (by rw [hdl, show j + 1 + (oth.length - (j - p + 1)) = p + oth.length by omega]; exact hm) hl
      refine ⟨by rw [src_n]; simp [mSrc, a1], ?_, ?_⟩
      · rw [dst_n]
        show _ ++ oth[j - p] :: mDst _ = _
        rw [a2, ← List.drop_eq_getElem_cons hd, List.take_append_drop]
      · rw [fat_n]
        have e : p + (oth.take (j - p)).length = j := by rw [List.length_take]; omega
        rw [e]
        simp [mFat, a3]
/-! prices by fates -/
def stayN (fs : List Int) : Nat := (fs.filter fun f => decide (0 ≤ f)).length
def chN (other : List Char) : List Char → List Int → Nat
  | c :: one, f :: fs => (if 0 ≤ f ∧ c ≠ other.getD f.toNat ' ' then 1 else 0) + chN other one fs
  | _, _ => 0
theorem pr_fat : ∀ (ms : List Mv) (pre : List Char), (mPr ms : Int) = (mSrc ms).length + (mDst ms).length - 2 * stayN (mFat pre.length ms) + chN (pre ++ mDst ms) (mSrc ms) (mFat pre.length ms)
  | [], pre => by simp [mPr, mSrc, mDst, mFat, stayN, chN]
  | .g c :: r, pre => by
    have ih := pr_fat r pre
    have e : stayN (mFat pre.length (.g c :: r)) = stayN (mFat pre.length r) := by simp [mFat, stayN]
    have e2 : chN (pre ++ mDst (.g c :: r)) (mSrc (.g c :: r)) (mFat pre.length (.g c :: r)) = chN (pre ++ mDst r) (mSrc r) (mFat pre.length r) := by simp [mFat, mSrc, mDst, chN]
    rw [e, e2]
    simp only [mPr, mSrc, mDst, List.length_cons]
    omega
  | .n c :: r, pre => by
    have ih := pr_fat r (pre ++ [c])
    have hl : (pre ++ [c]).length = pre.length + 1 := by simp
    rw [hl, List.append_assoc] at ih
    have e2 : pre ++ mDst (.n c :: r) = pre ++ ([c] ++ mDst r) := by simp [mDst]
    rw [e2]
    simp only [mPr, mSrc, mFat]
    have e3 : (mDst (.n c :: r)).length = (mDst r).length + 1 := by simp [mDst]
    rw [e3]
    omega
  | .k c d :: r, pre => by
    have ih := pr_fat r (pre ++ [d])
    have hl : (pre ++ [d]).length = pre.length + 1 := by simp
    rw [hl, List.append_assoc] at ih
    have e2 : pre ++ mDst (.k c d :: r) = pre ++ ([d] ++ mDst r) := by simp [mDst]
    have e1 : stayN (mFat pre.length (.k c d :: r)) = stayN (mFat (pre.length + 1) r) + 1 := by simp [mFat, stayN]
    have e3 : (mDst (.k c d :: r)).length = (mDst r).length + 1 := by simp [mDst]
    have e4 : chN (pre ++ ([d] ++ mDst r)) (mSrc (.k c d :: r)) (mFat pre.length (.k c d :: r)) = (if c = d then 0 else 1) + chN (pre ++ ([d] ++ mDst r)) (mSrc r) (mFat (pre.length + 1) r) := by
      simp only [mFat, mSrc, chN]
      congr 1
      have : (pre ++ ([d] ++ mDst r)).getD ((pre.length : Int)).toNat ' ' = d := by simp
      rw [this]
      by_cases h : c = d <;> simp [h]
    rw [e2, e1, e3, e4]
    simp only [mPr, mSrc, List.length_cons]
    omega
def prF (one other : List Char) (fs : List Int) : Int := one.length + other.length - 2 * stayN fs + chN other one fs
theorem pr_prF (ms : List Mv) : (mPr ms : Int) = prF (mSrc ms) (mDst ms) (mFat 0 ms) := pr_fat ms []
theorem mvF_pr {fs : List Int} {one other : List Char} (h : Mn other.length 0 fs) (hl : fs.length = one.length) : (mPr (mvF 0 one other fs) : Int) = prF one other fs := by
  obtain ⟨a1, a2, a3⟩ := mvF_all fs 0 one other (by rw [Nat.zero_add]; exact h) hl
  rw [pr_prF, a1, a2, a3]
/-! what follows for fates -/
theorem mn_inv {one other : List Char} {fs : List Int} (h : Mn other.length 0 fs) (hl : fs.length = one.length) : Mn one.length 0 (inv fs other.length) ∧ inv (inv fs other.length) one.length = fs ∧ prF other one (inv fs other.length) = prF one other fs := by
  obtain ⟨a1, a2, a3⟩ := mvF_all fs 0 one other (by rw [Nat.zero_add]; exact h) hl
  generalize mvF 0 one other fs = ms at a1 a2 a3
  have e := mFat_inv ms
  rw [a3, a2] at e
  rw [← e]
  refine ⟨?_, ?_, ?_⟩
  · have := mn_mFat (mSw ms) 0
    rw [Nat.zero_add, mDst_sw, a1] at this
    exact this
  · have := mFat_inv (mSw ms)
    rw [mSw_sw, mDst_sw, a1, a3] at this
    exact this.symm
  · have h1 := pr_prF (mSw ms)
    rw [mPr_sw, mSrc_sw, mDst_sw, a1, a2] at h1
    have h2 := pr_prF ms
    rw [a1, a2, a3] at h2
    rw [← h1, ← h2]
theorem mn_led {t u v : List Char} {f g : List Int} (h1 : Mn u.length 0 f) (l1 : f.length = t.length) (h2 : Mn v.length 0 g) (l2 : g.length = u.length) : Mn v.length 0 (led f g) ∧ prF t v (led f g) ≤ prF t u f + prF u v g := by
  obtain ⟨a1, a2, a3⟩ := mvF_all f 0 t u (by rw [Nat.zero_add]; exact h1) l1
  obtain ⟨b1, b2, b3⟩ := mvF_all g 0 u v (by rw [Nat.zero_add]; exact h2) l2
  generalize mvF 0 t u f = m1 at a1 a2 a3
  generalize mvF 0 u v g = m2 at b1 b2 b3
  obtain ⟨c1, c2, c3, c4⟩ := comp_all _ m1 m2 0 0 (Nat.le_refl _) (a2.trans b1.symm)
  have e : mFat 0 (comp m1 m2) = led f g := by
    rw [c4, a3, b3]
    unfold led
    refine List.map_congr_left fun x _ => ?_
    rw [Nat.sub_zero]
  refine ⟨?_, ?_⟩
  · have := mn_mFat (comp m1 m2) 0
    rw [Nat.zero_add, c2, b2, e] at this
    exact this
  · have p0 := pr_prF (comp m1 m2)
    have p1 := pr_prF m1
    have p2 := pr_prF m2
    rw [c1, c2, a1, b2, e] at p0
    rw [a1, a2, a3] at p1
    rw [b1, b2, b3] at p2
    omega
end DI
namespace DI
abbrev SG : List Char := k_abcdefghijklmnopqrstuvwx
def isTB (t : List Char) : Bool := decide (t.length ≤ 24) && t.all fun c => SG.contains c
def isStepB (s : List Char) : Bool := s == ['='] || s == ['-'] || match s with
  | [a, b] => (a == '+' || a == '~') && SG.contains b
  | _ => false
theorem beqC (a b : Char) : (a == b) = (b == a) := by
  rw [Bool.eq_iff_iff]
  simp only [beq_iff_eq]
  exact eq_comm
theorem step_ne {s : List Char} (h : isStepB s = true) : ∃ a r, s = a :: r := by
  cases s with
  | nil => simp [isStepB] at h
  | cons a r => exact ⟨a, r, rfl⟩
/-- the step's sign -/
def hd (s : List Char) : Char := s.headD ' '
theorem ix0 {s : List Char} (h : isStepB s = true) : atD s 0 = some (hd s) := by
  obtain ⟨a, r, rfl⟩ := step_ne h
  rfl
theorem step_len {s : List Char} (h : isStepB s = true) : s.length ≤ 2 := by
  match s, h with
  | [], _ => simp
  | [_], _ => simp
  | [_, _], _ => simp
  | _ :: _ :: _ :: _, h => simp [isStepB] at h
theorem one_eq (a b : Char) : ([a] == [b]) = (a == b) := by
  rw [Bool.eq_iff_iff]
  simp
theorem one_ne (a b : Char) : ([a] != [b]) = (a != b) := by
  unfold bne
  rw [one_eq]
def takenB (row : List (List Char)) : List (List Char) := row.filter fun s => !(hd s == '+')
def isRowB (t : List Char) (row : List (List Char)) : Bool := row.all isStepB && ((takenB row).length == t.length && decide ((row.filter fun s => !(s == ['-'])).length ≤ 24) && !((takenB row).zip t).any (fun p => p.1 == ['~', p.2])
  && !(row.zip (row.drop 1)).any (fun p => hd p.1 == '+' && p.2 == ['-']))
theorem row_parts {t : List Char} {row : List (List Char)} (h : isRowB t row = true) : (∀ s ∈ row, isStepB s = true) ∧ (takenB row).length = t.length := by
  unfold isRowB at h
  rw [Bool.and_eq_true, Bool.and_eq_true, Bool.and_eq_true, Bool.and_eq_true] at h
  exact ⟨List.all_eq_true.mp h.1, eq_of_beq h.2.1.1.1⟩
def sbSt (t : List Char) (q : List Char × Nat) (s : List Char) : List Char × Nat :=
  (q.1 ++ (if s = ['='] then [t.getD q.2 ' '] else if s = ['-'] then [] else [(s.drop 1).headD ' ']), if hd s = '+' then q.2 else q.2 + 1)
def behindB (t : List Char) (row : List (List Char)) : List Char := (row.foldl (sbSt t) ([], 0)).1
theorem step_cases {s : List Char} (h : isStepB s = true) : s = ['='] ∨ s = ['-'] ∨ (∃ c, s = ['+', c] ∧ SG.contains c = true) ∨ ∃ c, s = ['~', c] ∧ SG.contains c = true := by
  match s, h with
  | [], h => simp [isStepB] at h
  | [a], h =>
    simp [isStepB] at h
    rcases h with h | h <;> simp [h]
  | [a, b], h =>
    simp [isStepB] at h
    rcases h with ⟨h1 | h1, h2⟩ <;> simp [h1, h2]
  | _ :: _ :: _ :: _, h => simp [isStepB] at h
def ftSt (q : List Int × Nat) (s : List Char) : List Int × Nat := (if hd s = '+' then q.1 else q.1 ++ [if s = ['-'] then -1 else (q.2 : Int)], if s = ['-'] then q.2 else q.2 + 1)
def fatesB (row : List (List Char)) : List Int := (row.foldl ftSt ([], 0)).1
theorem foldl_len_sb (t : List Char) : ∀ (row : List (List Char)) (q : List Char × Nat), (row.foldl (sbSt t) q).1.length ≤ q.1.length + row.length
  | [], q => by simp
  | s :: row, q => by
    have := foldl_len_sb t row (sbSt t q s)
    have e : (sbSt t q s).1.length ≤ q.1.length + 1 := by
      unfold sbSt
      simp
      split
      · simp
      · split <;> simp
    simp only [List.foldl_cons, List.length_cons]
    omega
theorem behind_len (t : List Char) (row : List (List Char)) : (behindB t row).length ≤ row.length := by
  have := foldl_len_sb t row ([], 0)
  simpa [behindB] using this
structure RowOk (t : List Char) (row : List (List Char)) : Prop where
  tx : isTB t = true
  ln : row.length ≤ 100000
  rw : isRowB t row = true
theorem RowOk.tl {t : List Char} {row : List (List Char)} (h : RowOk t row) : t.length ≤ 100000 := by
  have := h.tx
  simp [isTB] at this
  omega
theorem RowOk.st {t : List Char} {row : List (List Char)} (h : RowOk t row) : ∀ s ∈ row, isStepB s = true := (row_parts h.rw).1
theorem RowOk.sl {t : List Char} {row : List (List Char)} (h : RowOk t row) : ∀ s ∈ row, s.length ≤ 100000 := fun s hm => Nat.le_trans (step_len (h.st s hm)) (by decide)
theorem tb_len {t : List Char} (h : isTB t = true) : t.length ≤ 24 := by
  simp [isTB] at h
  exact h.1
theorem tb_sg {t : List Char} (h : isTB t = true) : ∀ c ∈ t, SG.contains c = true := by
  simp only [isTB, Bool.and_eq_true] at h
  exact List.all_eq_true.mp h.2
end DI
namespace DI
theorem sp_is_text_of {t : List Char} (h : t.length ≤ 1000000) (m : Mem) : F_is_text_of [.d (.str t)] m = .ok (.d (.bl (isTB t))) m := by
  have h2 : t.length ≤ 16777216 := by omega
  simp only [F_is_text_of, s_is_text_of, mkFn]
  simp [dIsiP, tyP, h2]
  rw [lcL_map (p := fun _ => true) (g := fun c => .bl (SG.contains c)) _ _ (fun c _ => ⟨_, rfl, rfl, fun _ => by simp⟩)]
  simp [isTB]
  by_cases h3 : t.length ≤ 24
  · have : (t.length : Int) ≤ 24 := by omega
    simp [h3, this]
  · have : ¬ (t.length : Int) ≤ 24 := by omega
    simp [h3, this]
theorem sp_need_text {t : List Char} (h : isTB t = true) (m : Mem) : F_need_text [.d (.str t)] m = .ok (.d .non) m := by
  have h2 : t.length ≤ 1000000 := by
    simp [isTB] at h
    omega
  simp only [F_need_text, s_need_text, mkFn]
  simp [sp_is_text_of h2, h]
end DI
namespace DI
theorem sp_is_from (v lo hi : Int) (m : Mem) : F_is_from [.d (.int v), .d (.int lo), .d (.int hi)] m = .ok (.d (.bl (decide (lo ≤ v) && decide (v ≤ hi)))) m := by
  simp only [F_is_from, s_is_from, mkFn]
  simp [dIsiP, tyP]
theorem sp_need_line {t : List Char} {i : Int} (ht : t.length ≤ 100000) (h : 0 ≤ i ∧ i < t.length) (m : Mem) : F_need_line [.d (.str t), .d (.int i)] m = .ok (.d .non) m := by
  have ht2 : t.length ≤ 16777216 := by omega
  have h1 : i ≤ (t.length : Int) - 1 := by omega
  simp only [F_need_line, s_need_line, mkFn]
  simp [sp_is_from, ht2, h.1, h1]
end DI
namespace DI
def DeckAt (m : Mem) (i : Nat) (n : Int) : Prop := ∃ a b c : Int, m[i]? = some (.l1 [.int a, .int b, .int c]) ∧ 0 ≤ b ∧ b < 2147483579 ∧ 0 ≤ c ∧ c ≤ n
theorem DeckAt.mono {m : Mem} {i : Nat} {n k : Int} (h : DeckAt m i n) (hk : n ≤ k) : DeckAt m i k := by
  obtain ⟨a, b, c, h1, h2, h3, h4, h5⟩ := h
  exact ⟨a, b, c, h1, h2, h3, h4, by omega⟩
theorem vw_set {m : Mem} {i : Nat} {xs : List D} (h : i < m.length) : vw (m.set i (.l1 xs)) (.obj i) = some (.lst xs) := by
  unfold vw
  simp [h]
@[simp] theorem take_set {α : Type} {m : List α} {i : Nat} {x : α} : (m.set i x).take m.length = m.set i x := List.take_of_length_le (by simp)
theorem small_a : small64 15485867 = true := by decide
theorem small_b : small64 7919 = true := by decide
theorem sp_deck (cell t : Int) (ht : 0 ≤ t) (m : Mem) : ∃ m', F__law_deck [.d (.int cell), .d (.int t)] m = .ok (.obj m.length) m' ∧ DeckAt m' m.length t ∧ m'.length = m.length + 1 ∧ ∀ j, j < m.length → m'[j]? = m[j]? := by
  simp only [F__law_deck, s__law_deck, mkFn]
  have hp : dPow (.int 10) (.int 18) = some (.int 1000000000000000000) := by
    rw [o_pow, if_pos ⟨by decide, by decide, by decide⟩]
    rfl
  have hm : dMod (.int cell) (.int 2147483579) = some (.int (cell % 2147483579)) := by rw [o_mod, if_pos (by decide)]
  have h1 := Int.emod_nonneg cell (show (2147483579 : Int) ≠ 0 by decide)
  have h2 := Int.emod_lt_of_pos cell (show (0 : Int) < 2147483579 by decide)
  generalize cell % 2147483579 = b at hm h1 h2
  by_cases h : (1000000000000000000 : Int) ≤ cell
  · simp [-o_pow, -o_mod, hp, hm, h]
    refine ⟨⟨_, _, _, get_last, h1, h2, ht, Int.le_refl _⟩, fun j hj => List.getElem?_append_left hj⟩
  · simp [-o_pow, -o_mod, hp, hm, h]
    refine ⟨⟨_, _, _, get_last, h1, h2, ht, Int.le_refl _⟩, fun j hj => List.getElem?_append_left hj⟩
theorem sp_pick {m : Mem} {i : Nat} {n lim : Int} (h : DeckAt m i n) (hn : n ≤ 1000000000) (h1 : 0 < lim) (h2 : lim < 1073741824) :
    ∃ got m', F__law_pick [.obj i, .d (.int lim)] m = .ok (.d (.int got)) m' ∧ 0 ≤ got ∧ got < lim ∧ DeckAt m' i (n + 1) ∧ m'.length = m.length ∧ ∀ j, j ≠ i → m'[j]? = m[j]? := by
  obtain ⟨a, b, c, hm, hb1, hb2, hc1, hc2⟩ := h
  have hi : i < m.length := by
    by_cases z : i < m.length
    · exact z
    · rw [List.getElem?_eq_none (by omega)] at hm; cases hm
  have hv := vw_l1 hm
  simp only [F__law_pick, s__law_pick, mkFn]
  by_cases ha : 1 < a
  · refine ⟨a % lim, m.set i (.l1 [.int (a / lim), .int b, .int c]), ?_, Int.emod_nonneg _ (by omega), Int.emod_lt_of_pos _ h1, ⟨_, _, _, List.getElem?_set_self hi, hb1, hb2, hc1, by omega⟩, by simp, fun j hj => by rw [List.getElem?_set_ne (Ne.symm hj)]⟩
    simp [hv, ha, h1, h2, hm]
  · have e1 : dMulD (.int 15485867) (.int (c + 1)) = some (.int (15485867 * (c + 1))) := by rw [o_mul, small_a]; rfl
    have e2 : dMulD (.int 7919) (.int (c + 1)) = some (.int (7919 * (c + 1))) := by rw [o_mul, small_b]; rfl
    obtain ⟨x, hx⟩ : ∃ x, x = b + 15485867 * (c + 1) := ⟨_, rfl⟩
    have hx1 : x.natAbs < 2 ^ 64 := by omega
    have e3 : dPow (.int x) (.int 5) = some (.int (x ^ 5)) := by rw [o_pow, if_pos ⟨by decide, by decide, hx1⟩]; rfl
    obtain ⟨y, hy⟩ : ∃ y, y = x ^ 5 % 2147483647 := ⟨_, rfl⟩
    have e4 : dMod (.int (x ^ 5)) (.int 2147483647) = some (.int y) := by rw [o_mod, if_pos (by decide), hy]
    have y1 : 0 ≤ y := by rw [hy]; exact Int.emod_nonneg _ (by decide)
    have y2 : y < 2147483647 := by rw [hy]; exact Int.emod_lt_of_pos _ (by decide)
    clear hy
    obtain ⟨z, hz⟩ : ∃ z, z = y + 7919 * (c + 1) := ⟨_, rfl⟩
    have hz1 : z.natAbs < 2 ^ 64 := by omega
    have e5 : dPow (.int z) (.int 3) = some (.int (z ^ 3)) := by rw [o_pow, if_pos ⟨by decide, by decide, hz1⟩]; rfl
    obtain ⟨u, hu⟩ : ∃ u, u = z ^ 3 % 2147483629 := ⟨_, rfl⟩
    have e6 : dMod (.int (z ^ 3)) (.int 2147483629) = some (.int u) := by rw [o_mod, if_pos (by decide), hu]
    clear hu
    have e7 : dDiv (.int u) (.int 32) = some (.int (u / 32)) := by rw [o_div, if_pos (by decide)]
    have e8 : dMod (.int (u / 32)) (.int lim) = some (.int (u / 32 % lim)) := by rw [o_mod, if_pos h1]
    refine ⟨u / 32 % lim, m.set i (.l1 [.int a, .int b, .int (c + 1)]), ?_, Int.emod_nonneg _ (by omega), Int.emod_lt_of_pos _ h1, ⟨_, _, _, List.getElem?_set_self hi, hb1, hb2, by omega, by omega⟩, by simp, fun j hj => by rw [List.getElem?_set_ne (Ne.symm hj)]⟩
    have hv2 := vw_set (xs := [.int a, .int b, .int (c + 1)]) hi
    simp [-o_pow, -o_mod, -o_div, -o_mul, hv, ha, hm, hv2, e1, ← hx, e3, e4, e2, ← hz, e5, e6, e7, e8]
/-- one of a list, picked -/
theorem pick_of {xs : List D} {n : Nat} (hn : xs.length = n) (got : Int) (h1 : 0 ≤ got) (h2 : got < n) : ∃ x, dIx (.lst xs) (.int got) = some x ∧ x ∈ xs := by
  obtain ⟨k, rfl⟩ : ∃ k : Nat, got = k := ⟨got.toNat, by omega⟩
  have hk : k < xs.length := by omega
  exact ⟨xs[k], by rw [o_ixl, atD_ofNat]; simp [hk], List.getElem_mem hk⟩
/-- texts of letters of a list of letters -/
theorem lc_text {i : Nat} {sg : List Char} (hs : sg ≠ []) (hl : sg.length ≤ 1000) : ∀ (k : Nat) (n : Int) (m : Mem) (xs acc : List D) (ρ : Env), xs.length = k → DeckAt m i n → n + k ≤ 1000000000 → ρ[0]? = some (some (.obj i)) → ρ[2]? = some (some (.d (.str sg))) → ρ.length = 5 →
    ∃ (cs : List Char) (m' : Mem), lcL (tN 4) tsY (e2 dIx (eV 2) (eCall F__law_pick [eV 0, e1 dLen (eV 2)])) xs ρ m acc = .ok (acc ++ cs.map fun c => .str [c]) m' ∧ cs.length = k ∧ (∀ c ∈ cs, c ∈ sg) ∧ DeckAt m' i (n + k) ∧ m'.length = m.length ∧ ∀ j, j ≠ i → m'[j]? = m[j]?
  | 0, n, m, [], acc, ρ, _, hd, _, _, _, _ => ⟨[], m, by simp [lcL], rfl, by simp, hd.mono (by omega), rfl, fun _ _ => rfl⟩
  | k + 1, n, m, x :: xs, acc, ρ, hx, hd, hn, h0, h2, hl5 => by
    have hpos : (0 : Int) < sg.length := by
      cases sg with
      | nil => exact absurd rfl hs
      | cons a b => simp
    obtain ⟨got, m1, hpk, g1, g2, d1, l1, x1⟩ := sp_pick (lim := sg.length) hd (by omega) hpos (by omega)
    obtain ⟨q, rfl⟩ : ∃ q : Nat, got = q := ⟨got.toNat, by omega⟩
    have hq : q < sg.length := by omega
    have hl2 : sg.length ≤ 16777216 := by omega
    obtain ⟨cs, m', hrec, c1, c2, c3, c4, c5⟩ := lc_text hs hl k (n + 1) m1 xs (acc ++ [.str [sg[q]]]) ρ (by simpa using hx) d1 (by omega) h0 h2 hl5
    have t0 : (ρ.set 4 (some (.d x)))[0]? = some (some (.obj i)) := by rw [List.getElem?_set_ne (by decide)]; exact h0
    have t2 : (ρ.set 4 (some (.d x)))[2]? = some (some (.d (.str sg))) := by rw [List.getElem?_set_ne (by decide)]; exact h2
    have ee : e2 dIx (eV 2) (eCall F__law_pick [eV 0, e1 dLen (eV 2)]) (ρ.set 4 (some (.d x))) m = .ok (.d (.str [sg[q]])) m1 := by
      simp [t0, t2, hl2, hpk, atD_nat, hq]
    refine ⟨sg[q] :: cs, m', ?_, by simp [c1], ?_, c3.mono (by omega), by omega, fun j hj => (c5 j hj).trans (x1 j hj)⟩
    · unfold lcL
      rw [ev_tN]
      dsimp only
      rw [ev_tsY]
      dsimp only
      rw [ee]
      dsimp only
      rw [hrec]
      simp
    · intro c hc
      rcases List.mem_cons.mp hc with rfl | hc
      · exact List.getElem_mem hq
      · exact c2 c hc
theorem sp_text {m : Mem} {i : Nat} {n most : Int} (h : DeckAt m i n) (hn : n ≤ 100000000) (h1 : 0 ≤ most) (h2 : most ≤ 1000) :
    ∃ t m', F__law_text [.obj i, .d (.int most)] m = .ok (.d (.str t)) m' ∧ (t.length : Int) ≤ most ∧ (∀ c ∈ t, c ∈ k_abcdefgh) ∧ DeckAt m' i (n + 2 + most) ∧ m'.length = m.length ∧ ∀ j, j ≠ i → m'[j]? = m[j]? := by
  simp only [F__law_text, s__law_text, mkFn]
  obtain ⟨g1, m1, p1, a1, b1, d1, l1, x1⟩ := sp_pick (lim := 4) h (by omega) (by decide) (by decide)
  obtain ⟨g2, m2, p2, a2, b2, d2, l2, x2⟩ := sp_pick (lim := most + 1) d1 (by omega) (by omega) (by omega)
  obtain ⟨sg, e1, hm⟩ := pick_of (xs := [.str ['a', 'b'], .str ['a', 'b', 'c'], .str k_abcdefgh, .str ['a']]) rfl g1 a1 b1
  have hsg : ∃ q : List Char, sg = .str q ∧ q ≠ [] ∧ q.length ≤ 1000 ∧ ∀ c ∈ q, c ∈ k_abcdefgh := by
    simp only [List.mem_cons, List.not_mem_nil, or_false] at hm
    rcases hm with rfl | rfl | rfl | rfl
    · exact ⟨_, rfl, by decide, by decide, by decide⟩
    · exact ⟨_, rfl, by decide, by decide, by decide⟩
    · exact ⟨_, rfl, by decide, by decide, by decide⟩
    · exact ⟨_, rfl, by decide, by decide, by decide⟩
  obtain ⟨q, rfl, q1, q2, q3⟩ := hsg
  obtain ⟨k, rfl⟩ : ∃ k : Nat, g2 = k := ⟨g2.toNat, by omega⟩
  obtain ⟨cs, m3, hrec, c1, c2, c3, c4, c5⟩ := lc_text (i := i) q1 q2 k (n + 1 + 1) m2 (rng 0 k) [] [some (.obj i), some (.d (.int most)), some (.d (.str q)), some (.d (.int k)), none] (by simp [rng]) d2 (by omega) rfl rfl rfl
  refine ⟨cs, m3, ?_, by omega, fun c hc => q3 c (c2 c hc), c3.mono (by omega), by omega, fun j hj => (c5 j hj).trans ((x2 j hj).trans (x1 j hj))⟩
  have r1 : r1K (.d (.int (k : Int))) m2 = .ok (rng 0 k) m2 := by rw [r1K_int (fits62_nat (by omega)), Int.toNat_natCast]
  have hk : (rng 0 k).length ≤ 16777216 := by simp [rng]; omega
  simp [-o_ixl, p1, e1, p2, r1, hk, hrec, join_signs cs (by simp; omega)]
  rw [List.take_of_length_le (by omega)]
end DI
namespace DI
/-! the rows that _law_row makes -/
def ed (row : List (List Char)) : Nat := (row.filter fun s => !(s == ['='])).length
def lastB (got : List (List Char)) : Bool := match got.getLast? with
  | some s => hd s == '+'
  | none => false
structure Part (tp : List Char) (got : List (List Char)) : Prop where
  st : ∀ s ∈ got, isStepB s = true
  tk : (takenB got).length = tp.length
  ne : ∀ p ∈ (takenB got).zip tp, p.1 ≠ ['~', p.2]
  ad : ∀ p ∈ got.zip (got.drop 1), ¬ (hd p.1 = '+' ∧ p.2 = ['-'])
theorem pairs_snoc {α : Type} (s : α) : ∀ (got : List α) (p : α × α), p ∈ (got ++ [s]).zip ((got ++ [s]).drop 1) → p ∈ got.zip (got.drop 1) ∨ ∃ l, got.getLast? = some l ∧ p = (l, s)
  | [], p, h => by simp at h
  | [a], p, h => by
    simp at h
    exact .inr ⟨a, rfl, h⟩
  | a :: b :: r, p, h => by
    have h' : p ∈ (a, b) :: (b :: (r ++ [s])).zip ((b :: (r ++ [s])).drop 1) := h
    rcases List.mem_cons.mp h' with rfl | h'
    · exact .inl (by simp)
    · rcases pairs_snoc s (b :: r) p h' with h2 | ⟨l, h2, h3⟩
      · exact .inl (List.mem_cons_of_mem _ h2)
      · exact .inr ⟨l, by rw [List.getLast?_cons_cons]; exact h2, h3⟩
theorem Part.nil : Part [] [] := ⟨by simp, rfl, by simp [takenB], by simp⟩
theorem taken_snoc (got : List (List Char)) (s : List Char) : takenB (got ++ [s]) = if hd s = '+' then takenB got else takenB got ++ [s] := by
  unfold takenB
  rw [List.filter_append]
  by_cases h : hd s = '+'
  · rw [if_pos h, List.filter_cons_of_neg (by simp [h])]
    simp
  · rw [if_neg h, List.filter_cons_of_pos (by simp [h])]
    rfl
theorem Part.plus {tp : List Char} {got : List (List Char)} (h : Part tp got) {s : List Char} (hs : isStepB s = true) (hp : hd s = '+') : Part tp (got ++ [s]) := by
  have e := taken_snoc got s
  rw [if_pos hp] at e
  refine ⟨fun x hx => ?_, by rw [e]; exact h.tk, by rw [e]; exact h.ne, fun p hp2 => ?_⟩
  · rcases List.mem_append.mp hx with hx | hx
    · exact h.st x hx
    · rw [List.mem_singleton.mp hx]; exact hs
  · rcases pairs_snoc s got p hp2 with h2 | ⟨l, h2, rfl⟩
    · exact h.ad p h2
    · rintro ⟨_, h4⟩
      simp only at h4
      rw [h4] at hp
      exact absurd hp (by decide)
theorem Part.take {tp : List Char} {got : List (List Char)} (h : Part tp got) {s : List Char} {c : Char} (hs : isStepB s = true) (hp : hd s ≠ '+') (hc : s ≠ ['~', c]) (hl : s = ['-'] → lastB got = false) : Part (tp ++ [c]) (got ++ [s]) := by
  have e := taken_snoc got s
  rw [if_neg hp] at e
  refine ⟨fun x hx => ?_, by rw [e]; simp [h.tk], ?_, fun p hp2 => ?_⟩
  · rcases List.mem_append.mp hx with hx | hx
    · exact h.st x hx
    · rw [List.mem_singleton.mp hx]; exact hs
  · rw [e, List.zip_append h.tk]
    intro p hp2
    rcases List.mem_append.mp hp2 with h2 | h2
    · exact h.ne p h2
    · have : p = (s, c) := by simpa using h2
      rw [this]
      exact hc
  · rcases pairs_snoc s got p hp2 with h2 | ⟨l, h2, rfl⟩
    · exact h.ad p h2
    · rintro ⟨h3, h4⟩
      have := hl h4
      unfold lastB at this
      rw [h2] at this
      simp only at h3
      simp [h3] at this
theorem ed_snoc (got : List (List Char)) (s : List Char) : ed (got ++ [s]) = ed got + if s = ['='] then 0 else 1 := by
  unfold ed
  rw [List.filter_append, List.length_append]
  by_cases h : s = ['='] <;> simp [h]
theorem lastIx {got : List (List Char)} (h : got ≠ []) : ∃ l, got.getLast? = some l ∧ l ∈ got ∧ atD (got.map D.str) (-1) = some (.str l) := by
  refine ⟨got.getLast h, List.getLast?_eq_some_getLast h, List.getLast_mem h, ?_⟩
  have hl : 0 < got.length := List.length_pos_iff.mpr h
  unfold atD
  rw [if_neg (by decide), if_pos (by simp; omega)]
  have : ((-1 : Int) + ((got.map D.str).length : Int)).toNat = got.length - 1 := by
    simp
    omega
  rw [this, List.getElem?_map, ← List.getLast?_eq_getElem?, List.getLast?_eq_some_getLast h]
  rfl
theorem depAll_str : ∀ ns : List (List Char), D.depAll (ns.map .str) = 0
  | [] => by simp [D.depAll]
  | n :: ns => by simp [D.depAll, D.dep, depAll_str ns]
theorem ne_nil (got : List (List Char)) : dNe (.lst (got.map .str)) (.lst []) = some (.bl (!got.isEmpty)) := by
  unfold dNe
  rw [if_pos (by simp [D.dep, depAll_str, D.depAll])]
  cases got <;> simp [D.eqv, D.eqvAll]
theorem eq_nil (got : List (List Char)) : dEq (.lst (got.map .str)) (.lst []) = some (.bl got.isEmpty) := by
  unfold dEq
  rw [if_pos (by simp [D.dep, depAll_str, D.depAll])]
  cases got <;> simp [D.eqv, D.eqvAll]
end DI
namespace DI
abbrev rowS : SS := sSeq (sAsg (tN 7) (eCall F__law_pick [eV 0, eC (.int 7)])) (sSeq (sAsg (tN 8) (e2 dIx (eV 2) (eCall F__law_pick [eV 0, e1 dLen (eV 2)]))) (sSeq (sAsg (tN 9) (eAnd (e2 dNe (eV 4) (eFz (nLst []))) (e2 dEq (e2 dIx (e2 dIx (eV 4) (e1 dNeg (eC (.int 1)))) (eC (.int 0))) (eC (.str ['+']))))) (sIf (eAnd (e2 dGt (eV 5) (eC (.int 0))) (eAnd (e2 dEq (eV 7) (eC (.int 0))) (eNot (eV 9)))) (sPar [4, 5] [e2 dAdd (eV 4) (eFz (nLst [eC (.str ['-'])])), e2 dSub (eV 5) (eC (.int 1))]) (sIf (eAnd (e2 dGt (eV 5) (eC (.int 0))) (eAnd (e2 dEq (eV 7) (eC (.int 1))) (e2 dNe (eV 8) (eV 6)))) (sPar [4, 5] [e2 dAdd (eV 4) (eFz (nLst [e2 dAdd (eC (.str ['~'])) (eV 8)])), e2 dSub (eV 5) (eC (.int 1))]) (sSeq (sIf (eAnd (e2 dGt (eV 5) (eC (.int 0))) (e2 dEq (eV 7) (eC (.int 2)))) (sPar [4, 5] [e2 dAdd (eV 4) (eFz (nLst [e2 dAdd (eC (.str ['+'])) (eV 8)])), e2 dSub (eV 5) (eC (.int 1))]) (sNil)) (sAsg (tN 4) (e2 dAdd (eV 4) (eFz (nLst [eC (.str ['='])])))))))))
/-- what one sign adds -/
theorem row_turn {m : Mem} {i : Nat} {n : Int} (hd0 : DeckAt m i n) (hn : n ≤ 100000000) {sg : List Char} (hs : sg ≠ []) (hsl : sg.length ≤ 1000) (hsg : ∀ c ∈ sg, SG.contains c = true) {tp : List Char} {got : List (List Char)} (P : Part tp got) (hgl : got.length ≤ 100000) {left : Int} (hl : 0 ≤ left) (c : Char)
    (a1 a3 b7 b8 b9 : Option PV) :
    ∃ (got' : List (List Char)) (left' : Int) (c7 c8 c9 : Option PV) (m' : Mem), rowS [some (.obj i), a1, some (.d (.str sg)), a3, some (.d (.lst (got.map .str))), some (.d (.int left)), some (.d (.str [c])), b7, b8, b9] m
      = .nx [some (.obj i), a1, some (.d (.str sg)), a3, some (.d (.lst (got'.map .str))), some (.d (.int left')), some (.d (.str [c])), c7, c8, c9] m' ∧ Part (tp ++ [c]) got' ∧ 0 ≤ left' ∧ (ed got' : Int) + left' = ed got + left ∧ (got'.length : Int) + left' ≤ got.length + 1 + left ∧ DeckAt m' i (n + 2) ∧ m'.length = m.length ∧ ∀ j, j ≠ i → m'[j]? = m[j]? := by
  have hpos : (0 : Int) < sg.length := by
    cases sg with
    | nil => exact absurd rfl hs
    | cons a b => simp
  obtain ⟨w, m1, p1, w1, w2, d1, l1, x1⟩ := sp_pick (lim := 7) hd0 (by omega) (by decide) (by decide)
  obtain ⟨g, m2, p2, g1, g2, d2, l2, x2⟩ := sp_pick (lim := sg.length) d1 (by omega) hpos (by omega)
  obtain ⟨q, rfl⟩ : ∃ q : Nat, g = q := ⟨g.toNat, by omega⟩
  have hq : q < sg.length := by omega
  have hsl2 : sg.length ≤ 16777216 := by omega
  have hgl2 : got.length + 1 ≤ 16777216 := by omega
  have hgl3 : got.length + 1 + 1 ≤ 16777216 := by omega
  obtain ⟨put, hput⟩ : ∃ put, put = sg[q] := ⟨_, rfl⟩
  have hpg : SG.contains put = true := hsg _ (by rw [hput]; exact List.getElem_mem hq)
  have hpm : put ∈ SG := by simpa using hpg
  have st0 : sAsg (tN 7) (eCall F__law_pick [eV 0, eC (.int 7)]) [some (.obj i), a1, some (.d (.str sg)), a3, some (.d (.lst (got.map .str))), some (.d (.int left)), some (.d (.str [c])), b7, b8, b9] m = .nx [some (.obj i), a1, some (.d (.str sg)), a3, some (.d (.lst (got.map .str))), some (.d (.int left)), some (.d (.str [c])), some (.d (.int w)), b8, b9] m1 := by
    simp [p1]
  have st1 : sAsg (tN 8) (e2 dIx (eV 2) (eCall F__law_pick [eV 0, e1 dLen (eV 2)])) [some (.obj i), a1, some (.d (.str sg)), a3, some (.d (.lst (got.map .str))), some (.d (.int left)), some (.d (.str [c])), some (.d (.int w)), b8, b9] m1 = .nx [some (.obj i), a1, some (.d (.str sg)), a3, some (.d (.lst (got.map .str))), some (.d (.int left)), some (.d (.str [c])), some (.d (.int w)), some (.d (.str [put])), b9] m2 := by
    simp [p2, hsl2, atD_nat, hq, hput]
  have st2 : sAsg (tN 9) (eAnd (e2 dNe (eV 4) (eFz (nLst []))) (e2 dEq (e2 dIx (e2 dIx (eV 4) (e1 dNeg (eC (.int 1)))) (eC (.int 0))) (eC (.str ['+'])))) [some (.obj i), a1, some (.d (.str sg)), a3, some (.d (.lst (got.map .str))), some (.d (.int left)), some (.d (.str [c])), some (.d (.int w)), some (.d (.str [put])), b9] m2 = .nx [some (.obj i), a1, some (.d (.str sg)), a3, some (.d (.lst (got.map .str))), some (.d (.int left)), some (.d (.str [c])), some (.d (.int w)), some (.d (.str [put])), some (.d (.bl (lastB got)))] m2 := by
    by_cases hg : got = []
    · subst hg
      have := ne_nil []
      simp at this
      simp [this, lastB]
    · obtain ⟨l, h1, h2, h3⟩ := lastIx hg
      have hh := ix0 (P.st l h2)
      have hll : l.length ≤ 16777216 := Nat.le_trans (step_len (P.st l h2)) (by decide)
      have hb : got.isEmpty = false := by cases got with
        | nil => exact absurd rfl hg
        | cons a b => rfl
      simp [ne_nil, hb, h3, hll, hh, one_eq, lastB, h1]
  generalize hEE : lastB got = bar at st2
  rw [rowS, ev_seq, st0, at_nx, ev_seq, st1, at_nx, ev_seq, st2, at_nx]
  have ltrue : ∀ {x y : Int}, y < x → decide (y < x) = true := fun h => decide_eq_true h
  by_cases c1 : 0 < left ∧ w = 0 ∧ bar = false
  · obtain ⟨z1, z2, z3⟩ := c1
    refine ⟨got ++ [['-']], left - 1, some (.d (.int w)), some (.d (.str [put])), some (.d (.bl bar)), m2, ?_, ?_, by omega, ?_, ?_, d2.mono (by omega), by omega, fun j hj => (x2 j hj).trans (x1 j hj)⟩
    · simp [z1, z2, z3, hgl2]
    · exact P.take (by decide) (by decide) (by simp) (fun _ => by rw [hEE]; exact z3)
    · rw [ed_snoc, if_neg (by decide)]
      omega
    · simp
      omega
  · have k1 : (eAnd (e2 dGt (eV 5) (eC (.int 0))) (eAnd (e2 dEq (eV 7) (eC (.int 0))) (eNot (eV 9)))) [some (.obj i), a1, some (.d (.str sg)), a3, some (.d (.lst (got.map .str))), some (.d (.int left)), some (.d (.str [c])), some (.d (.int w)), some (.d (.str [put])), some (.d (.bl bar))] m2 = .ok (.d (.bl false)) m2 := by
      by_cases z1 : 0 < left
      · by_cases z2 : w = 0
        · have z3 : bar = true := by
            cases bar with
            | true => rfl
            | false => exact absurd ⟨z1, z2, rfl⟩ c1
          simp [z1, z2, z3]
        · simp [z1, z2]
      · simp [z1]
    rw [ev_if, k1, if_f]
    by_cases c2 : 0 < left ∧ w = 1 ∧ put ≠ c
    · obtain ⟨z1, z2, z3⟩ := c2
      have z4 : ([put] == [c]) = false := by simp [z3]
      refine ⟨got ++ [['~', put]], left - 1, some (.d (.int w)), some (.d (.str [put])), some (.d (.bl bar)), m2, ?_, ?_, by omega, ?_, ?_, d2.mono (by omega), by omega, fun j hj => (x2 j hj).trans (x1 j hj)⟩
      · simp [z1, z2, z3, z4, hgl2]
      · exact P.take (by simp [isStepB, hpm]) (by simp [hd]) (by simp [z3]) (fun h => by simp at h)
      · rw [ed_snoc, if_neg (by simp)]
        omega
      · simp
        omega
    · have k2 : (eAnd (e2 dGt (eV 5) (eC (.int 0))) (eAnd (e2 dEq (eV 7) (eC (.int 1))) (e2 dNe (eV 8) (eV 6)))) [some (.obj i), a1, some (.d (.str sg)), a3, some (.d (.lst (got.map .str))), some (.d (.int left)), some (.d (.str [c])), some (.d (.int w)), some (.d (.str [put])), some (.d (.bl bar))] m2 = .ok (.d (.bl false)) m2 := by
        by_cases z1 : 0 < left
        · by_cases z2 : w = 1
          · have z3 : put = c := by
              by_cases z : put = c
              · exact z
              · exact absurd ⟨z1, z2, z⟩ c2
            simp [z1, z2, z3]
          · simp [z1, z2]
        · simp [z1]
      rw [ev_if, k2, if_f]
      by_cases c3 : 0 < left ∧ w = 2
      · obtain ⟨z1, z2⟩ := c3
        refine ⟨got ++ [['+', put]] ++ [['=']], left - 1, some (.d (.int w)), some (.d (.str [put])), some (.d (.bl bar)), m2, ?_, ?_, by omega, ?_, ?_, d2.mono (by omega), by omega, fun j hj => (x2 j hj).trans (x1 j hj)⟩
        · simp [z1, z2, hgl2, hgl3]
        · exact (P.plus (by simp [isStepB, hpm]) (by simp [hd])).take (by decide) (by decide) (by simp) (fun h => by simp at h)
        · rw [ed_snoc, ed_snoc, if_neg (by simp), if_pos rfl]
          omega
        · simp
          omega
      · have k3 : (eAnd (e2 dGt (eV 5) (eC (.int 0))) (e2 dEq (eV 7) (eC (.int 2)))) [some (.obj i), a1, some (.d (.str sg)), a3, some (.d (.lst (got.map .str))), some (.d (.int left)), some (.d (.str [c])), some (.d (.int w)), some (.d (.str [put])), some (.d (.bl bar))] m2 = .ok (.d (.bl false)) m2 := by
          by_cases z1 : 0 < left
          · have z2 : ¬ w = 2 := fun z => c3 ⟨z1, z⟩
            simp [z1, z2]
          · simp [z1]
        rw [ev_seq, ev_if, k3, if_f, ev_nil, at_nx]
        refine ⟨got ++ [['=']], left, some (.d (.int w)), some (.d (.str [put])), some (.d (.bl bar)), m2, ?_, ?_, hl, ?_, ?_, d2.mono (by omega), by omega, fun j hj => (x2 j hj).trans (x1 j hj)⟩
        · simp [hgl2]
        · exact P.take (by decide) (by decide) (by simp) (fun h => by simp at h)
        · rw [ed_snoc, if_pos rfl]
          omega
        · simp
theorem row_loop {i : Nat} {sg : List Char} (hs : sg ≠ []) (hsl : sg.length ≤ 1000) (hsg : ∀ c ∈ sg, SG.contains c = true) (a1 a3 : Option PV) :
    ∀ (rest : List Char) (tp : List Char) (got : List (List Char)) (left : Int) (m : Mem) (n : Int) (b6 b7 b8 b9 : Option PV), DeckAt m i n → n + 2 * rest.length ≤ 100000000 → Part tp got → (got.length : Int) + rest.length + left ≤ 100000 → 0 ≤ left →
    ∃ (got' : List (List Char)) (left' : Int) (c6 c7 c8 c9 : Option PV) (m' : Mem), forL (tN 6) rowS (rest.map fun c => .str [c]) [some (.obj i), a1, some (.d (.str sg)), a3, some (.d (.lst (got.map .str))), some (.d (.int left)), b6, b7, b8, b9] m
      = .nx [some (.obj i), a1, some (.d (.str sg)), a3, some (.d (.lst (got'.map .str))), some (.d (.int left')), c6, c7, c8, c9] m' ∧ Part (tp ++ rest) got' ∧ 0 ≤ left' ∧ (ed got' : Int) + left' = ed got + left ∧ (got'.length : Int) + left' ≤ got.length + rest.length + left ∧ DeckAt m' i (n + 2 * rest.length) ∧ m'.length = m.length ∧ ∀ j, j ≠ i → m'[j]? = m[j]?
  | [], tp, got, left, m, n, b6, b7, b8, b9, d, _, P, _, hl => ⟨got, left, b6, b7, b8, b9, m, rfl, by rw [List.append_nil]; exact P, hl, rfl, by simp, d.mono (by simp), rfl, fun _ _ => rfl⟩
  | c :: rest, tp, got, left, m, n, b6, b7, b8, b9, d, hn, P, hgl, hl => by
    simp only [List.length_cons] at hn hgl
    obtain ⟨got1, left1, c7, c8, c9, m1, e1, P1, hl1, q1, r1, d1, l1, x1⟩ := row_turn d (by omega) hs hsl hsg P (by omega) hl c a1 a3 b7 b8 b9
    obtain ⟨got2, left2, f6, f7, f8, f9, m2, e2, P2, hl2, q2, r2, d2, l2, x2⟩ := row_loop hs hsl hsg a1 a3 rest (tp ++ [c]) got1 left1 m1 (n + 2) (some (.d (.str [c]))) c7 c8 c9 d1 (by omega) P1 (by omega) hl1
    refine ⟨got2, left2, f6, f7, f8, f9, m2, ?_, by rw [List.append_assoc] at P2; exact P2, hl2, by omega, by simp only [List.length_cons]; omega, d2.mono (by simp only [List.length_cons]; omega), by omega, fun j hj => (x2 j hj).trans (x1 j hj)⟩
    rw [List.map_cons, for_nx rfl e1, e2]
theorem filt_le {α : Type} (p q : α → Bool) : ∀ l : List α, (∀ x ∈ l, p x = true → q x = true) → (l.filter p).length ≤ (l.filter q).length
  | [], _ => by simp
  | x :: l, h => by
    have ih := filt_le p q l fun y hy => h y (by simp [hy])
    cases hp : p x with
    | true => rw [List.filter_cons_of_pos hp, List.filter_cons_of_pos (h x (by simp) hp)]; simp only [List.length_cons]; omega
    | false =>
      rw [List.filter_cons_of_neg (by simp [hp])]
      cases hq : q x with
      | true => rw [List.filter_cons_of_pos hq]; simp only [List.length_cons]; omega
      | false => rw [List.filter_cons_of_neg (by simp [hq])]; exact ih
theorem Part.ok {t : List Char} {row : List (List Char)} (h : Part t row) (ht : isTB t = true) (hl : row.length ≤ 24) : RowOk t row := by
  refine ⟨ht, by omega, ?_⟩
  unfold isRowB
  rw [Bool.and_eq_true, Bool.and_eq_true, Bool.and_eq_true, Bool.and_eq_true]
  refine ⟨List.all_eq_true.mpr h.st, ⟨⟨?_, ?_⟩, ?_⟩, ?_⟩
  · rw [h.tk]; exact beq_self_eq_true _
  · have := List.length_filter_le (fun s => !(s == ['-'])) row
    exact decide_eq_true (by omega)
  · rw [Bool.not_eq_true', List.any_eq_false]
    intro p hp
    have := h.ne p hp
    simpa using this
  · rw [Bool.not_eq_true', List.any_eq_false]
    intro p hp
    have := h.ad p hp
    simp only [Bool.and_eq_true, beq_iff_eq]
    exact this
theorem sp_row {m : Mem} {i : Nat} {n : Int} (d : DeckAt m i n) (hn : n ≤ 10000000) {t : List Char} (ht : isTB t = true) {sg : List Char} (hs : sg ≠ []) (hsl : sg.length ≤ 1000) (hsg : ∀ c ∈ sg, SG.contains c = true) {most : Int} (hm0 : 0 ≤ most) (hm1 : t.length + most ≤ 24) :
    ∃ row m', F__law_row [.obj i, .d (.str t), .d (.str sg), .d (.int most)] m = .ok (.d (.tup (row.map .str))) m' ∧ RowOk t row ∧ (row.length : Int) ≤ t.length + most ∧ (ed row : Int) ≤ most ∧ DeckAt m' i (n + 2 * t.length + 2) ∧ m'.length = m.length ∧ ∀ j, j ≠ i → m'[j]? = m[j]? := by
  have htl : t.length ≤ 24 := by
    simp [isTB] at ht
    exact ht.1
  have hpos : (0 : Int) < sg.length := by
    cases sg with
    | nil => exact absurd rfl hs
    | cons a b => simp
  have hsl2 : sg.length ≤ 16777216 := by omega
  obtain ⟨got, left, c6, c7, c8, c9, m1, e1, P, hl, q1, r1, d1, l1, x1⟩ := row_loop (i := i) hs hsl hsg (some (.d (.str t))) (some (.d (.int most))) t [] [] most m n none none none none d (by omega) Part.nil (by simp; omega) hm0
  rw [List.nil_append] at P
  simp only [ed, List.filter_nil, List.length_nil] at q1 r1
  have q1' : (ed got : Int) + left = most := by
    unfold ed
    omega
  have r1' : (got.length : Int) + left ≤ t.length + most := by omega
  have hgl : got.length + 1 ≤ 16777216 := by omega
  simp only [F__law_row, s__law_row, mkFn]
  have e1' : forL (tN 6) rowS (t.map fun c => .str [c]) [some (.obj i), some (.d (.str t)), some (.d (.str sg)), some (.d (.int most)), some (.d (.lst [])), some (.d (.int most)), none, none, none, none] m = _ := e1
  by_cases hl0 : 0 < left
  · obtain ⟨g, m2, p2, g1, g2, d2, l2, x2⟩ := sp_pick (lim := 3) d1 (by omega) (by decide) (by decide)
    by_cases hg : g = 0
    · obtain ⟨k, m3, p3, k1, k2, d3, l3, x3⟩ := sp_pick (lim := sg.length) d2 (by omega) hpos (by omega)
      obtain ⟨q, rfl⟩ : ∃ q : Nat, k = q := ⟨k.toNat, by omega⟩
      have hq : q < sg.length := by omega
      have hpm : SG.contains sg[q] = true := hsg _ (List.getElem_mem hq)
      have hpm2 : sg[q] ∈ SG := by simpa using hpm
      have P2 := P.plus (s := ['+', sg[q]]) (by simp [isStepB, hpm2]) (by simp [hd])
      refine ⟨got ++ [['+', sg[q]]], m3, ?_, P2.ok ht (by simp; omega), by simp; omega, ?_, d3.mono (by omega), by omega, fun j hj => (x3 j hj).trans ((x2 j hj).trans (x1 j hj))⟩
      · simp [e1', hl0, p2, hg, p3, hsl2, atD_nat, hq, hgl]
        rw [List.take_of_length_le (by omega)]
      · rw [ed_snoc, if_neg (by simp)]
        omega
    · refine ⟨got, m2, ?_, P.ok ht (by omega), by omega, by omega, d2.mono (by omega), by omega, fun j hj => (x2 j hj).trans (x1 j hj)⟩
      have hgb : (g == 0) = false := beq_eq_false_iff_ne.mpr hg
      simp [e1', hl0, p2, hgb]
      rw [List.take_of_length_le (by omega)]
  · refine ⟨got, m1, ?_, P.ok ht (by omega), by omega, by omega, d1.mono (by omega), by omega, x1⟩
    simp [e1', hl0]
    rw [List.take_of_length_le (by omega)]
end DI
namespace DI
/-! _law_walked: the text behind, the fates, the edits -/
def wkSt (t : List Char) (q : List Char × List Int × Nat) (s : List Char) : List Char × List Int × Nat :=
  (q.1 ++ (if s = ['-'] then [] else if hd s = '+' then [(s.drop 1).headD ' '] else if s = ['='] then [t.getD q.2.1.length ' '] else [(s.drop 1).headD ' ']),
   if s = ['-'] then q.2.1 ++ [-1] else if hd s = '+' then q.2.1 else q.2.1 ++ [(q.1.length : Int)], if s = ['='] then q.2.2 else q.2.2 + 1)
theorem wk_fold {t : List Char} : ∀ (row : List (List Char)) (f : List Char) (e : List Int) (k : Nat), (∀ s ∈ row, isStepB s = true) →
    row.foldl (wkSt t) (f, e, k) = ((row.foldl (sbSt t) (f, e.length)).1, (row.foldl ftSt (e, f.length)).1, k + ed row)
  | [], f, e, k, _ => by simp [ed]
  | s :: row, f, e, k, h => by
    have ih := fun f e k => wk_fold (t := t) row f e k fun x hx => h x (by simp [hx])
    rw [List.foldl_cons, List.foldl_cons, List.foldl_cons]
    have he : ed (s :: row) = (if s = ['='] then 0 else 1) + ed row := by
      unfold ed
      by_cases z : s = ['=']
      · rw [List.filter_cons_of_neg (by simp [z]), if_pos z]
        omega
      · rw [List.filter_cons_of_pos (by simp [z]), if_neg z, List.length_cons]
        omega
    rcases step_cases (h s (by simp)) with rfl | rfl | ⟨c, rfl, _⟩ | ⟨c, rfl, _⟩
    · have e1 : wkSt t (f, e, k) ['='] = (f ++ [t.getD e.length ' '], e ++ [(f.length : Int)], k) := by simp [wkSt, hd]
      have e2 : sbSt t (f, e.length) ['='] = (f ++ [t.getD e.length ' '], e.length + 1) := by simp [sbSt, hd]
      have e3 : ftSt (e, f.length) ['='] = (e ++ [(f.length : Int)], f.length + 1) := by simp [ftSt, hd]
      rw [e1, e2, e3, ih, he]
      simp
    · have e1 : wkSt t (f, e, k) ['-'] = (f, e ++ [-1], k + 1) := by simp [wkSt, hd]
      have e2 : sbSt t (f, e.length) ['-'] = (f, e.length + 1) := by simp [sbSt, hd]
      have e3 : ftSt (e, f.length) ['-'] = (e ++ [-1], f.length) := by simp [ftSt, hd]
      rw [e1, e2, e3, ih, he]
      simp
      omega
    · have e1 : wkSt t (f, e, k) ['+', c] = (f ++ [c], e, k + 1) := by simp [wkSt, hd]
      have e2 : sbSt t (f, e.length) ['+', c] = (f ++ [c], e.length) := by simp [sbSt, hd]
      have e3 : ftSt (e, f.length) ['+', c] = (e, f.length + 1) := by simp [ftSt, hd]
      rw [e1, e2, e3, ih, he]
      simp
      omega
    · have e1 : wkSt t (f, e, k) ['~', c] = (f ++ [c], e ++ [(f.length : Int)], k + 1) := by simp [wkSt, hd]
      have e2 : sbSt t (f, e.length) ['~', c] = (f ++ [c], e.length + 1) := by simp [sbSt, hd]
      have e3 : ftSt (e, f.length) ['~', c] = (e ++ [(f.length : Int)], f.length + 1) := by simp [ftSt, hd]
      rw [e1, e2, e3, ih, he]
      simp
      omega
theorem sp_walked {t : List Char} {row : List (List Char)} (ht : t.length ≤ 100000) (hr : row.length ≤ 100000) (h1 : ∀ s ∈ row, isStepB s = true) (h2 : (takenB row).length = t.length) (m : Mem) :
    F__law_walked [.d (.str t), .d (.tup (row.map .str))] m = .ok (.d (.tup [.str (behindB t row), .lst ((fatesB row).map .int), .int (ed row)])) m := by
  have ht2 : t.length ≤ 16777216 := by omega
  simp only [F__law_walked, s__law_walked, mkFn]
  simp
  obtain ⟨v', e1, e2⟩ := for_fold (tg := tN 5)
    (b := sSeq (sAsg (tN 6) (e1 dLen (eV 3))) (sSeq (sIf (e2 dNe (eV 5) (eC (.str ['=']))) (sAsg (tN 4) (e2 dAdd (eV 4) (eC (.int 1)))) (sNil)) (sIf (e2 dEq (eV 5) (eC (.str ['-']))) (sApp (eV 3) (e1 dNeg (eC (.int 1)))) (sIf (e2 dEq (e2 dIx (eV 5) (eC (.int 0))) (eC (.str ['+']))) (sAsg (tN 2) (e2 dAdd (eV 2) (e2 dIx (eV 5) (eC (.int 1))))) (sSeq (sApp (eV 3) (e1 dLen (eV 2))) (sAsg (tN 2) (e2 dAdd (eV 2) (eIf (e2 dEq (eV 5) (eC (.str ['=']))) (e2 dIx (eV 0) (eV 6)) (e2 dIx (eV 5) (eC (.int 1)))))))))))
    (k := D.str) (fun (q : (List Char × List Int × Nat) × Option PV) v => [some (.d (.str t)), some (.d (.tup (row.map .str))), some (.d (.str q.1.1)), some (.obj m.length), some (.d (.int q.1.2.2)), v, q.2]) (fun q => m ++ [.l1 (q.1.2.1.map .int)]) (fun q s => (wkSt t q.1 s, some (.d (.int q.1.2.1.length))))
    (fun rest q => (∀ s ∈ rest, isStepB s = true) ∧ q.1.2.1.length + (takenB rest).length ≤ t.length ∧ q.1.1.length + rest.length ≤ 200000)
    (fun s rest q v ⟨i1, i2, i3⟩ => by
      have hs := i1 s (by simp)
      have hl : q.1.1.length + 1 ≤ 16777216 := by
        simp at i3
        omega
      have hl0 : q.1.1.length ≤ 16777216 := by omega
      have he : q.1.2.1.length < 16777216 := by omega
      have hvw : vw (m ++ [.l1 (q.1.2.1.map .int)]) (.obj m.length) = some (.lst (q.1.2.1.map .int)) := vw_l1 get_last
      refine ⟨_, some (.d (.str s)), rfl, ?_, fun x hx => i1 x (by simp [hx]), ?_, ?_⟩
      · rcases step_cases hs with rfl | rfl | ⟨c, rfl, _⟩ | ⟨c, rfl, _⟩
        · have hq : q.1.2.1.length < t.length := by
            simp [takenB, hd] at i2
            omega
          simp [wkSt, hd, ht2, atD_nat, hq, hl, hvw, he, hl0]
        · simp [wkSt, hd, ht2, atD_nat, hl, hvw, he, hl0]
        · simp [wkSt, hd, ht2, atD_nat, hl, hvw, he, hl0]
        · simp [wkSt, hd, ht2, atD_nat, hl, hvw, he, hl0]
      · rcases step_cases hs with rfl | rfl | ⟨c, rfl, _⟩ | ⟨c, rfl, _⟩ <;> simp [takenB, hd, wkSt] at i2 ⊢ <;> omega
      · rcases step_cases hs with rfl | rfl | ⟨c, rfl, _⟩ | ⟨c, rfl, _⟩ <;> simp [wkSt, hd] at i3 ⊢ <;> omega)
    row (([], [], 0), none) none ⟨h1, by simp [h2], by simp; omega⟩
  have key : ∀ (rs : List (List Char)) (q : (List Char × List Int × Nat) × Option PV), (rs.foldl (fun q s => (wkSt t q.1 s, some (PV.d (.int q.1.2.1.length)))) q).1 = rs.foldl (wkSt t) q.1 := by
    intro rs
    induction rs with
    | nil => intro q; rfl
    | cons s rs ih => intro q; rw [List.foldl_cons, List.foldl_cons, ih]
  rw [key, wk_fold row [] [] 0 h1] at e1
  simp at e1
  rw [e1]
  simp [behindB, fatesB]
end DI
namespace DI
structure Rule where
  a : Int
  b : Int
  c : Int
  l : Int
  ties : List Char
structure Rule.Ok (r : Rule) : Prop where
  a : 0 ≤ r.a ∧ r.a ≤ 3
  b : 0 ≤ r.b ∧ r.b ≤ 3
  c : 0 ≤ r.c ∧ r.c ≤ 4
  l : 1 ≤ r.l ∧ r.l ≤ 10
  ties : r.ties = k_first ∨ r.ties = ['l', 'a', 's', 't']
def Rule.d (r : Rule) : D := .tup [.int r.a, .int r.b, .int r.c, .int r.l, .str r.ties]
theorem sp_need_rule {r : Rule} (h : r.Ok) (m : Mem) : F_need_rule [.d r.d] m = .ok (.d .non) m := by
  simp only [F_need_rule, s_need_rule, mkFn]
  have e : F_is_rule_of [.d r.d] m = .ok (.d (.bl true)) m := by
    simp only [F_is_rule_of, s_is_rule_of, mkFn, Rule.d]
    simp [dIsiP, tyP, sp_is_from, h.a, h.b, h.c, h.l]
    rcases h.ties with e | e <;> simp [e]
  simp [e]
def sgnB (t : List Char) (p : Int) : Char := if p < 0 then '^' else t.getD p.toNat '$'
theorem sp_sign_at {t : List Char} {p : Int} (ht : t.length ≤ 100000) (m : Mem) : F_sign_at [.d (.str t), .d (.int p)] m = .ok (.d (.str [sgnB t p])) m := by
  have ht2 : t.length ≤ 16777216 := by omega
  simp only [F_sign_at, s_sign_at, mkFn, sgnB]
  by_cases h : p < 0
  · simp [h]
  · obtain ⟨n, rfl⟩ : ∃ n : Nat, p = n := ⟨p.toNat, by omega⟩
    simp [h, ht2]
    by_cases h2 : n < t.length
    · have h3 : (n : Int) < t.length := by omega
      simp [h2, h3, atD_nat]
    · have h3 : ¬ (n : Int) < t.length := by omega
      simp [h2, h3]
def befB (a : Int) (t : List Char) (p : Int) : List Char := (List.range a.toNat).map fun (i : Nat) => sgnB t (p - a + (i : Int))
def aftB (b : Int) (t : List Char) (p : Int) : List Char := (List.range b.toNat).map fun (i : Nat) => sgnB t (p + 1 + (i : Int))
theorem lc_signs {t : List Char} (ht : t.length ≤ 100000) (lo : Int) (n : Nat) {ρ : Env} {m : Mem} (h0 : ρ[1]? = some (some (.d (.str t)))) (hl : ρ.length = 5) (f : Nat → Char) (hf : ∀ i : Nat, f i = sgnB t (lo + i)) :
    lcL (tN 4) tsY (eCall F_sign_at [eV 1, eV 4]) (rng lo n) ρ m [] = .ok ((List.range n).map fun i => .str [f i]) m := by
  unfold rng
  exact lcL_all (g := fun i => .str [f i]) _ (fun i _ => ⟨_, rfl, by
    have e1 : (ρ.set 4 (some (.d (.int (lo + (i : Int))))))[1]? = some (some (.d (.str t))) := by
      rw [List.getElem?_set_ne (by decide)]; exact h0
    have e2 : (ρ.set 4 (some (PV.d (.int (lo + (i : Int))))))[4]? = some (some (.d (.int (lo + i)))) := by
      rw [List.getElem?_set_self (by omega)]
    simp [e1, e2, sp_sign_at ht, hf]⟩)
theorem join_range {n : Nat} (h : n ≤ 1000) (f : Nat → Char) : dJoin (.str []) (.lst ((List.range n).map fun i => .str [f i])) = some (.str ((List.range n).map f)) := by
  have := join_signs ((List.range n).map f) (by simp; omega)
  rw [List.map_map] at this
  exact this
theorem sp_around {r : Rule} (hr : r.Ok) {t : List Char} (ht : t.length ≤ 100000) {p : Int} (hp : 0 ≤ p ∧ p ≤ 100000) (m : Mem) :
    F_around [.d r.d, .d (.str t), .d (.int p)] m = .ok (.d (.tup [.str (befB r.a t p), .str (aftB r.b t p)])) m := by
  obtain ⟨a1, a2⟩ := hr.a
  obtain ⟨b1, b2⟩ := hr.b
  simp only [F_around, s_around, mkFn]
  have f1 : fits62 (p - r.a) = true := fits62_int (by omega)
  have f2 : fits62 p = true := fits62_int (by omega)
  have f3 : fits62 (p + 1) = true := fits62_int (by omega)
  have f4 : fits62 (p + 1 + r.b) = true := fits62_int (by omega)
  have e1 : (p - (p - r.a)).toNat = r.a.toNat := by omega
  have e2 : (p + 1 + r.b - (p + 1)).toNat = r.b.toNat := by omega
  have n1 : r.a.toNat ≤ 1000 := by omega
  have n2 : r.b.toNat ≤ 1000 := by omega
  have l1 : (rng (p - r.a) r.a.toNat).length ≤ 16777216 := by simp [rng]; omega
  have l2 : (rng (p + 1) r.b.toNat).length ≤ 16777216 := by simp [rng]; omega
  simp [Rule.d, r2K_int f1 f2, e1, l1]
  rw [lc_signs ht _ _ rfl rfl (fun i => sgnB t (p - r.a + i)) (fun _ => rfl)]
  simp [join_range n1, r2K_int f3 f4, e2, l2]
  rw [lc_signs ht _ _ rfl rfl (fun i => sgnB t (p + 1 + i)) (fun _ => rfl)]
  simp [join_range n2, befB, aftB]
def anchorD (r : Rule) (t : List Char) (n : Nat) : D := .tup [.int n, .str (befB r.a t n), .str [t.getD n ' '], .str (aftB r.b t n)]
theorem sp_anchor_of {r : Rule} (hr : r.Ok) {t : List Char} (ht : t.length ≤ 100000) {n : Nat} (hn : n < t.length) (m : Mem) :
    F_anchor_of [.d r.d, .d (.str t), .d (.int n)] m = .ok (.d (anchorD r t n)) m := by
  have ht2 : t.length ≤ 16777216 := by omega
  simp only [F_anchor_of, s_anchor_of, mkFn]
  simp [sp_around hr ht (p := n) (by omega), ht2, atD_nat, hn, anchorD]
theorem bef_len (a : Int) (t : List Char) (p : Int) : (befB a t p).length = a.toNat := by simp [befB]
theorem aft_len (a : Int) (t : List Char) (p : Int) : (aftB a t p).length = a.toNat := by simp [aftB]
/-- the score of place p of t2 for the anchor of place n of t -/
def scoreB (r : Rule) (t : List Char) (n : Nat) (t2 : List Char) (p : Nat) : Int :=
  ((((befB r.a t n ++ aftB r.b t n).zip (befB r.a t2 p ++ aftB r.b t2 p)).filter fun q => q.1 == q.2).length : Int) + if t2.getD p ' ' == t.getD n ' ' then r.c else 0
theorem sp_score_at {r : Rule} (hr : r.Ok) {t t2 : List Char} (ht2 : t2.length ≤ 100000) {n p : Nat} (hp : p < t2.length) (m : Mem) :
    F_score_at [.d r.d, .d (anchorD r t n), .d (.str t2), .d (.int p)] m = .ok (.d (.int (scoreB r t n t2 p))) m := by
  obtain ⟨a1, a2⟩ := hr.a
  obtain ⟨b1, b2⟩ := hr.b
  have hl2 : t2.length ≤ 16777216 := by omega
  simp only [F_score_at, s_score_at, mkFn]
  have l1 : (befB r.a t n).length + (aftB r.b t n).length ≤ 16777216 := by rw [bef_len, aft_len]; omega
  have l2 : (befB r.a t2 p).length + (aftB r.b t2 p).length ≤ 16777216 := by rw [bef_len, aft_len]; omega
  simp [sp_around hr ht2 (p := p) (by omega), anchorD, l1, l2]
  have l3 : min ((befB r.a t n).length + (aftB r.b t n).length) ((befB r.a t2 p).length + (aftB r.b t2 p).length) ≤ 16777216 := by omega
  simp [l3]
  rw [← List.map_append, ← List.map_append, List.zip_map, List.map_map]
  have ez : (fun p : D × D => D.tup [p.1, p.2]) ∘ Prod.map (fun c => D.str [c]) (fun c => D.str [c]) = fun p : Char × Char => D.tup [.str [p.1], .str [p.2]] := rfl
  rw [ez, lcL_map (p := fun p : Char × Char => p.1 == p.2) (g := fun _ => .int 1) _ _ (fun p hm => ⟨_, rfl, by simp [one_eq], fun _ => rfl⟩)]
  simp [hl2, atD_nat, hp, Rule.d, scoreB, one_eq]
theorem sca0 {r : Rule} {t t2 : List Char} (hl2 : t2.length ≤ 16777216) {n : Nat} (m : Mem) : (e1 dLen (eV 2)) [some (.d r.d), some (.d (anchorD r t n)), some (.d (.str t2)), none] m = .ok (.d (.int t2.length)) m := by
    simp [hl2]
theorem sca1 {r : Rule} {t t2 : List Char} (ht2 : t2.length ≤ 100000) {n : Nat} (m : Mem) : (iR1 (e1 dLen (eV 2))) [some (.d r.d), some (.d (anchorD r t n)), some (.d (.str t2)), none] m = .ok (rng 0 t2.length) m := by
    rw [ev_iR1, sca0 (by omega), Res.bind_ok, r1K_int (fits62_nat (by omega)), Int.toNat_natCast]
theorem sca2 {t2 : List Char} (hl2 : t2.length ≤ 16777216) : (rng 0 t2.length).length ≤ 16777216 := by
    unfold rng
    rw [List.length_map, List.length_range]
    exact hl2
theorem sca3  {r : Rule} (hr : r.Ok) {t t2 : List Char} (ht2 : t2.length ≤ 100000) {n : Nat} (m : Mem) : lcL (tN 3) tsY (eCall F_score_at [eV 0, eV 1, eV 2, eV 3]) (rng 0 t2.length) [some (.d r.d), some (.d (anchorD r t n)), some (.d (.str t2)), none] m [] = .ok (((List.range t2.length).map (scoreB r t n t2)).map .int) m := by
    unfold rng
    rw [List.map_map]
    refine lcL_all (g := D.int ∘ scoreB r t n t2) _ (fun p hm => ⟨_, rfl, ?_⟩)
    have e : (0 : Int) + (p : Int) = p := by omega
    rw [e]
    simp [sp_score_at hr ht2 (List.mem_range.mp hm)]
theorem sp_scores_at {r : Rule} (hr : r.Ok) {t t2 : List Char} (ht2 : t2.length ≤ 100000) {n : Nat} (m : Mem) :
    F_scores_at [.d r.d, .d (anchorD r t n), .d (.str t2)] m = .ok (.d (.lst (((List.range t2.length).map (scoreB r t n t2)).map .int))) m := by
  show fnR m.length (Res.run (Res.bind (Res.bind (iR1 (e1 dLen (eV 2)) [some (.d r.d), some (.d (anchorD r t n)), some (.d (.str t2)), none] m) (lcG (tN 3) tsY (eCall F_score_at [eV 0, eV 1, eV 2, eV 3]) [some (.d r.d), some (.d (anchorD r t n)), some (.d (.str t2)), none])) fun xs m => .ok (.d (.lst xs)) m) fun v m => .rt v m) = _
  rw [sca1 ht2, Res.bind_ok, lcG_ok (sca2 (by omega)), sca3 hr ht2]
  rw [Res.bind_ok, Res.run_ok, ev_rtd, List.take_length]
def maxB (ns : List Int) : Int := (maxI ns).getD 0
def bestL (ns : List Int) : List Int := ((ns.zipIdx.filter fun q => q.1 == maxB ns).map fun q => (q.2 : Int))
def bestB (ns : List Int) (least : Int) (ties : List Char) : Int := if ns = [] ∨ maxB ns < least then -1 else if ties = k_first then (bestL ns).headD 0 else (bestL ns).getLastD 0
theorem intsD_map : ∀ ns : List Int, intsD (ns.map .int) = some ns
  | [] => rfl
  | n :: ns => by simp [intsD, intsD_map ns]
theorem maxI_some : ∀ {ns : List Int}, ns ≠ [] → maxI ns = some (maxB ns) ∧ maxB ns ∈ ns
  | [], h => absurd rfl h
  | [a], _ => by simp [maxB, maxI]
  | a :: b :: r, _ => by
    obtain ⟨h1, h2⟩ := maxI_some (ns := b :: r) (by simp)
    have e : maxI (a :: b :: r) = some (if a < maxB (b :: r) then maxB (b :: r) else a) := by
      show (match maxI (b :: r) with
      | some b => some (if a < b then b else a)
      | none => none) = _
      rw [h1]
    have e2 : maxB (a :: b :: r) = (if a < maxB (b :: r) then maxB (b :: r) else a) := by
      unfold maxB
      rw [e]
      rfl
    refine ⟨by rw [e, e2], ?_⟩
    rw [e2]
    split
    · exact List.mem_cons_of_mem _ h2
    · exact List.mem_cons_self ..
theorem depAll_int : ∀ ns : List Int, D.depAll (ns.map .int) = 0
  | [] => by simp [D.depAll]
  | n :: ns => by simp [D.depAll, D.dep, depAll_int ns]
theorem sp_best_place (ns : List Int) (hn : ns.length ≤ 100000) (least : Int) (ties : List Char) (m : Mem) :
    F_best_place [.d (.lst (ns.map .int)), .d (.int least), .d (.str ties)] m = .ok (.d (.int (bestB ns least ties))) m := by
  have hl : ns.length ≤ 16777216 := by omega
  simp only [F_best_place, s_best_place, mkFn]
  have d1 : D.dep (.lst (ns.map .int)) ≤ 64 := by simp [D.dep, depAll_int]
  have d2 : D.dep (.lst []) ≤ 64 := by simp [D.dep, D.depAll]
  by_cases h : ns = []
  · subst h
    simp [dEq, d1, d2, D.eqv, D.eqvAll, D.dep, D.depAll, bestB]
  · obtain ⟨h1, h2⟩ := maxI_some h
    have e1 : dEq (.lst (ns.map .int)) (.lst []) = some (.bl false) := by
      unfold dEq
      rw [if_pos ⟨d1, d2⟩]
      cases ns with
      | nil => exact absurd rfl h
      | cons a r => simp [D.eqv, D.eqvAll]
    have e2 : dMax (.lst (ns.map .int)) = some (.int (maxB ns)) := by
      simp [dMax, intsD_map, h1]
    simp [e1, e2]
    by_cases h3 : maxB ns < least
    · simp [h3, bestB]
    · simp [h3, hl]
      have hne : bestL ns ≠ [] := by
        obtain ⟨i, hi, e⟩ := List.getElem_of_mem h2
        intro z
        have : ((ns[i], i) : Int × Nat) ∈ ns.zipIdx.filter fun q => q.1 == maxB ns := by
          rw [List.mem_filter]
          refine ⟨?_, by simp [e]⟩
          rw [List.mem_zipIdx_iff_getElem?]
          simp [hi]
        unfold bestL at z
        rw [List.map_eq_nil_iff] at z
        rw [z] at this
        cases this
      have em : List.mapIdx (fun (i : Nat) x => D.tup [D.int i, x]) (List.map D.int ns) = ns.zipIdx.map fun q => D.tup [D.int (q.2 : Int), D.int q.1] := by
        rw [List.mapIdx_eq_zipIdx_map, List.zipIdx_map, List.map_map]
        rfl
      rw [em, lcL_map (p := fun q : Int × Nat => q.1 == maxB ns) (g := fun q : Int × Nat => .int (q.2 : Int)) _ _ (fun q hm => ⟨_, rfl, by simp [e2], fun _ => rfl⟩)]
      have eb : (ns.zipIdx.filter fun q => q.1 == maxB ns).map (fun q => D.int (q.2 : Int)) = (bestL ns).map .int := by
        unfold bestL
        rw [List.map_map]
        rfl
      rw [List.nil_append, eb]
      simp [bestB, h, h3]
      generalize bestL ns = bs at hne
      have x0 : atD (bs.map D.int) 0 = some (.int (bs.headD 0)) := by
        cases bs with
        | nil => exact absurd rfl hne
        | cons a r => rfl
      have x1 : atD (bs.map D.int) (-1) = some (.int (bs.getLastD 0)) := by
        cases hb : bs with
        | nil => exact absurd hb hne
        | cons a r =>
          unfold atD
          have c1 : ¬ (0 : Int) ≤ -1 := by decide
          have c2 : -(((a :: r).map D.int).length : Int) ≤ -1 := by simp; omega
          rw [if_neg c1, if_pos c2]
          have c3 : ((-1 : Int) + (((a :: r).map D.int).length : Int)).toNat = r.length := by
            simp
            omega
          rw [c3, List.getElem?_map]
          have c4 : (a :: r)[r.length]? = some ((a :: r).getLastD 0) := by
            rw [List.getLastD_eq_getLast?, List.getLast?_eq_getElem?]
            simp
          rw [c4] <;> rfl
      by_cases ht : ties = k_first
      · simp [ht, x0]
      · simp [ht, x1]
def foundB (r : Rule) (t : List Char) (n : Nat) (t2 : List Char) : Int := bestB ((List.range t2.length).map (scoreB r t n t2)) r.l r.ties
theorem sp_found_at {r : Rule} (hr : r.Ok) {t t2 : List Char} (ht2 : t2.length ≤ 100000) {n : Nat} (m : Mem) :
    F_found_at [.d r.d, .d (anchorD r t n), .d (.str t2)] m = .ok (.d (.int (foundB r t n t2))) m := by
  have e1 := sp_scores_at hr ht2 (t := t) (n := n) m
  have e2 := sp_best_place ((List.range t2.length).map (scoreB r t n t2)) (by simpa using ht2) r.l r.ties m
  simp only [F_found_at, s_found_at, mkFn]
  obtain ⟨sc, hsc⟩ : ∃ sc, sc = (List.range t2.length).map (scoreB r t n t2) := ⟨_, rfl⟩
  rw [← hsc] at e1 e2
  simp [e1]
  simp [Rule.d, e2]
  rw [hsc]
  rfl
end DI
namespace DI
theorem sp_rule {m : Mem} {i : Nat} {n : Int} (h : DeckAt m i n) (hn : n ≤ 100000000) :
    ∃ r m', F__law_rule [.obj i] m = .ok (.d (Rule.d r)) m' ∧ r.Ok ∧ DeckAt m' i (n + 8) ∧ m'.length = m.length ∧ ∀ j, j ≠ i → m'[j]? = m[j]? := by
  simp only [F__law_rule, s__law_rule, mkFn]
  obtain ⟨g1, m1, p1, a1, b1, d1, l1, x1⟩ := sp_pick (lim := 2) h (by omega) (by decide) (by decide)
  obtain ⟨g2, m2, p2, a2, b2, d2, l2, x2⟩ := sp_pick (lim := 3) d1 (by omega) (by decide) (by decide)
  obtain ⟨g3, m3, p3, a3, b3, d3, l3, x3⟩ := sp_pick (lim := 6) d2 (by omega) (by decide) (by decide)
  obtain ⟨g4, m4, p4, a4, b4, d4, l4, x4⟩ := sp_pick (lim := 10) d3 (by omega) (by decide) (by decide)
  obtain ⟨g5, m5, p5, a5, b5, d5, l5, x5⟩ := sp_pick (lim := 3) d4 (by omega) (by decide) (by decide)
  obtain ⟨g6, m6, p6, a6, b6, d6, l6, x6⟩ := sp_pick (lim := 4) d5 (by omega) (by decide) (by decide)
  obtain ⟨g7, m7, p7, a7, b7, d7, l7, x7⟩ := sp_pick (lim := 4) d6 (by omega) (by decide) (by decide)
  obtain ⟨g8, m8, p8, a8, b8, d8, l8, x8⟩ := sp_pick (lim := 5) d7 (by omega) (by decide) (by decide)
  obtain ⟨ti, e1, hm⟩ := pick_of (xs := [.str k_first, .str ['l', 'a', 's', 't']]) rfl g1 a1 b1
  obtain ⟨lo, e2, hm2⟩ := pick_of (xs := [.int (1 + g2), .int (1 + g3), .int (1 + g4)]) rfl g5 a5 b5
  have ht : ∃ q : List Char, ti = .str q ∧ (q = k_first ∨ q = ['l', 'a', 's', 't']) := by
    simp only [List.mem_cons, List.not_mem_nil, or_false] at hm
    rcases hm with rfl | rfl
    · exact ⟨_, rfl, .inl rfl⟩
    · exact ⟨_, rfl, .inr rfl⟩
  have hl : ∃ q : Int, lo = .int q ∧ 1 ≤ q ∧ q ≤ 10 := by
    simp only [List.mem_cons, List.not_mem_nil, or_false] at hm2
    rcases hm2 with rfl | rfl | rfl
    · exact ⟨_, rfl, by omega, by omega⟩
    · exact ⟨_, rfl, by omega, by omega⟩
    · exact ⟨_, rfl, by omega, by omega⟩
  obtain ⟨q, rfl, hq⟩ := ht
  obtain ⟨lw, rfl, hw1, hw2⟩ := hl
  refine ⟨⟨g6, g7, g8, lw, q⟩, m8, ?_, ⟨⟨a6, by show g6 ≤ 3; omega⟩, ⟨a7, by show g7 ≤ 3; omega⟩, ⟨a8, by show g8 ≤ 4; omega⟩, ⟨hw1, hw2⟩, hq⟩, d8.mono (by omega), by omega, fun j hj => by rw [x8 j hj, x7 j hj, x6 j hj, x5 j hj, x4 j hj, x3 j hj, x2 j hj, x1 j hj]⟩
  simp [-o_ixl, p1, e1, p2, p3, p4, p5, e2, p6, p7, p8, Rule.d]
  rw [List.take_of_length_le (by omega)]
end DI
namespace DI
/-! _law_found: the finding, gone through -/
theorem add_str {s t : List Char} (h : s.length + t.length ≤ 16777216) : dAdd (.str s) (.str t) = some (.str (s ++ t)) := if_pos h
theorem add_lst {s t : List D} (h : s.length + t.length ≤ 16777216) : dAdd (.lst s) (.lst t) = some (.lst (s ++ t)) := if_pos h
def pad (t : List Char) : List Char := ['^', '^', '^'] ++ t ++ ['$', '$', '$']
theorem pad_at (t : List Char) (x : Int) (h1 : -3 ≤ x) (h2 : x < t.length + 3) : atD (pad t) (x + 3) = some (sgnB t x) := by
  obtain ⟨k, hk⟩ : ∃ k : Nat, x + 3 = k := ⟨(x + 3).toNat, by omega⟩
  rw [hk, atD_ofNat]
  unfold sgnB pad
  match k, hk with
  | 0, hk => rw [if_pos (by omega)]; rfl
  | 1, hk => rw [if_pos (by omega)]; rfl
  | 2, hk => rw [if_pos (by omega)]; rfl
  | k + 3, hk =>
    have hx : x = k := by omega
    subst hx
    rw [if_neg (by omega), Int.toNat_natCast]
    show (t ++ ['$', '$', '$'])[k]? = _
    by_cases h : k < t.length
    · rw [List.getElem?_append_left h]
      simp [h]
    · rw [List.getElem?_append_right (by omega)]
      have e : t.getD k '$' = '$' := by simp [List.getD, List.getElem?_eq_none (by omega : t.length ≤ k)]
      rw [e]
      obtain ⟨j, hj⟩ : ∃ j, j = k - t.length := ⟨_, rfl⟩
      have hj3 : j < 3 := by omega
      rw [← hj]
      match j, hj3 with
      | 0, _ => rfl
      | 1, _ => rfl
      | 2, _ => rfl
/-- how far one looks -/
def fars (r : Rule) : List Int := (List.range r.a.toNat).map (fun (i : Nat) => 0 - r.a + (i : Int)) ++ (List.range r.b.toNat).map fun (i : Nat) => 1 + (i : Int)
theorem fars_mem {r : Rule} (hr : r.Ok) {f : Int} (h : f ∈ fars r) : -3 ≤ f ∧ f ≤ 3 := by
  obtain ⟨a1, a2⟩ := hr.a
  obtain ⟨b1, b2⟩ := hr.b
  unfold fars at h
  rcases List.mem_append.mp h with h | h
  · obtain ⟨i, hi, rfl⟩ := List.mem_map.mp h
    rw [List.mem_range] at hi
    omega
  · obtain ⟨i, hi, rfl⟩ := List.mem_map.mp h
    rw [List.mem_range] at hi
    omega
theorem ctx_fars (r : Rule) (t : List Char) (p : Int) : befB r.a t p ++ aftB r.b t p = (fars r).map fun f => sgnB t (p + f) := by
  unfold befB aftB fars
  rw [List.map_append, List.map_map, List.map_map]
  congr 1
  · apply List.map_congr_left
    intro i _
    show sgnB t (p - r.a + (i : Int)) = sgnB t (p + (0 - r.a + (i : Int)))
    congr 1
    omega
  · apply List.map_congr_left
    intro i _
    show sgnB t (p + 1 + (i : Int)) = sgnB t (p + (1 + (i : Int)))
    congr 1
    omega
theorem score_fars (r : Rule) (t : List Char) (n : Nat) (t2 : List Char) (p : Nat) : scoreB r t n t2 p = (((fars r).filter fun f => sgnB t (n + f) == sgnB t2 (p + f)).length : Int) + if t2.getD p ' ' == t.getD n ' ' then r.c else 0 := by
  unfold scoreB
  rw [ctx_fars, ctx_fars, List.zip_map', List.filter_map, List.length_map]
  rfl
abbrev farS : SS := sAsg (tN 9) (e2 dAdd (eV 9) (e1 dInt (e2 dEq (e2 dIx (eV 4) (e2 dAdd (e2 dAdd (eV 2) (eC (.int 3))) (eV 10))) (e2 dIx (eV 5) (e2 dAdd (e2 dAdd (eV 8) (eC (.int 3))) (eV 10))))))
theorem far_loop {r : Rule} (hr : r.Ok) {t t2 : List Char} (ht : t.length ≤ 100000) (ht2 : t2.length ≤ 100000) {n p : Nat} (hn : n < t.length) (hp : p < t2.length) (a0 a1 a3 a6 a7 a11 : Option PV) (m : Mem) :
    ∀ (fs : List Int) (sc : Int) (v : Option PV), (∀ f ∈ fs, -3 ≤ f ∧ f ≤ 3) → ∃ v', forL (tN 10) farS (fs.map .int) [a0, a1, some (.d (.int n)), a3, some (.d (.str (pad t))), some (.d (.str (pad t2))), a6, a7, some (.d (.int p)), some (.d (.int sc)), v, a11] m
      = .nx [a0, a1, some (.d (.int n)), a3, some (.d (.str (pad t))), some (.d (.str (pad t2))), a6, a7, some (.d (.int p)), some (.d (.int (sc + ((fs.filter fun f => sgnB t (n + f) == sgnB t2 (p + f)).length : Int)))), v', a11] m
  | [], sc, v, _ => ⟨v, by simp⟩
  | f :: fs, sc, v, h => by
    obtain ⟨f1, f2⟩ := h f (by simp)
    have l1 : (pad t).length ≤ 16777216 := by simp [pad]; omega
    have l2 : (pad t2).length ≤ 16777216 := by simp [pad]; omega
    have x1 : atD (pad t) ((n : Int) + 3 + f) = some (sgnB t (n + f)) := by
      rw [show (n : Int) + 3 + f = (n + f) + 3 by omega]
      exact pad_at t _ (by omega) (by omega)
    have x2 : atD (pad t2) ((p : Int) + 3 + f) = some (sgnB t2 (p + f)) := by
      rw [show (p : Int) + 3 + f = (p + f) + 3 by omega]
      exact pad_at t2 _ (by omega) (by omega)
    obtain ⟨v', e⟩ := far_loop hr ht ht2 hn hp a0 a1 a3 a6 a7 a11 m fs (sc + if sgnB t (n + f) == sgnB t2 (p + f) then 1 else 0) (some (.d (.int f))) fun g hg => h g (by simp [hg])
    refine ⟨v', ?_⟩
    rw [List.map_cons, for_nx rfl (ρ2 := [a0, a1, some (.d (.int n)), a3, some (.d (.str (pad t))), some (.d (.str (pad t2))), a6, a7, some (.d (.int p)), some (.d (.int (sc + if sgnB t (n + f) == sgnB t2 (p + f) then 1 else 0))), some (.d (.int f)), a11]) (m2 := m) (by simp [l1, l2, x1, x2, one_eq]), e]
    by_cases z : sgnB t (n + f) = sgnB t2 (p + f)
    · rw [List.filter_cons_of_pos (by simp [z])]
      simp [z]
      omega
    · rw [List.filter_cons_of_neg (by simp [z])]
      simp [z]
def fdSt (r : Rule) (sc : Nat → Int) (q : Int × Int) (p : Nat) : Int × Int := if (r.l ≤ sc p ∧ (q.2 < 0 ∨ q.1 < sc p ∨ (sc p = q.1 ∧ r.ties = ['l', 'a', 's', 't']))) then (sc p, (p : Int)) else q
theorem sp_law_found {r : Rule} (hr : r.Ok) {t t2 : List Char} (ht : t.length ≤ 100000) (ht2 : t2.length ≤ 100000) {n : Nat} (hn : n < t.length) (m : Mem) :
    F__law_found [.d r.d, .d (.str t), .d (.int n), .d (.str t2)] m = .ok (.d (.int ((List.range t2.length).foldl (fdSt r (scoreB r t n t2)) (0, -1)).2)) m := by
  obtain ⟨a1, a2⟩ := hr.a
  obtain ⟨b1, b2⟩ := hr.b
  have hl : t.length ≤ 16777216 := by omega
  have hl2 : t2.length ≤ 16777216 := by omega
  have l1 : t.length + 1 + 1 + 1 ≤ 16777216 := by omega
  have l1' : t.length + 1 + 1 + 1 + 3 ≤ 16777216 := by omega
  have l2 : t2.length + 1 + 1 + 1 ≤ 16777216 := by omega
  have l2' : t2.length + 1 + 1 + 1 + 3 ≤ 16777216 := by omega
  have r1 : r1K (.d (.int (t2.length : Int))) m = .ok (rng 0 t2.length) m := by rw [r1K_int (fits62_nat (by omega)), Int.toNat_natCast]
  have q1 : dAdd (.str ['^', '^', '^']) (.str t) = some (.str ('^' :: '^' :: '^' :: t)) := add_str (by simp only [List.length_cons, List.length_nil]; omega)
  have q2 : dAdd (.str ('^' :: '^' :: '^' :: t)) (.str ['$', '$', '$']) = some (.str (pad t)) := add_str (by simp only [List.length_cons, List.length_nil]; omega)
  have q3 : dAdd (.str ['^', '^', '^']) (.str t2) = some (.str ('^' :: '^' :: '^' :: t2)) := add_str (by simp only [List.length_cons, List.length_nil]; omega)
  have q4 : dAdd (.str ('^' :: '^' :: '^' :: t2)) (.str ['$', '$', '$']) = some (.str (pad t2)) := add_str (by simp only [List.length_cons, List.length_nil]; omega)
  have hfar : iV (e2 dAdd (eFz (nRg2 (e2 dSub (eC (.int 0)) (e2 dIx (eV 0) (eC (.int 0)))) (eC (.int 0)))) (eFz (nRg2 (eC (.int 1)) (e2 dAdd (e2 dIx (eV 0) (eC (.int 1))) (eC (.int 1)))))) = iV (e2 dAdd (eFz (nRg2 (e2 dSub (eC (.int 0)) (e2 dIx (eV 0) (eC (.int 0)))) (eC (.int 0)))) (eFz (nRg2 (eC (.int 1)) (e2 dAdd (e2 dIx (eV 0) (eC (.int 1))) (eC (.int 1)))))) := rfl
  have fr : ∀ (x1 x2 x3 x4 x5 x6 x7 x8 x9 x10 x11 : Option PV), iV (e2 dAdd (eFz (nRg2 (e2 dSub (eC (.int 0)) (e2 dIx (eV 0) (eC (.int 0)))) (eC (.int 0)))) (eFz (nRg2 (eC (.int 1)) (e2 dAdd (e2 dIx (eV 0) (eC (.int 1))) (eC (.int 1)))))) [some (.d r.d), x1, x2, x3, x4, x5, x6, x7, x8, x9, x10, x11] m = .ok ((fars r).map .int) m := by
    intro x1 x2 x3 x4 x5 x6 x7 x8 x9 x10 x11
    have g1 : nRg2 (e2 dSub (eC (.int 0)) (e2 dIx (eV 0) (eC (.int 0)))) (eC (.int 0)) [some (.d r.d), x1, x2, x3, x4, x5, x6, x7, x8, x9, x10, x11] m = .ok (rng (0 - r.a) r.a.toNat) m := by
      simp only [nRg2, Rule.d, ev_e2, ev_eC, ev_eV, List.getElem?_cons_zero, Res.bind_ok, vw_d, Option.bind_some, o_ixt, atD_0, ofO_some, o_sub]
      rw [if_pos ⟨by omega, by omega⟩, show (0 - (0 - r.a)).toNat = r.a.toNat by omega]
    have g2 : nRg2 (eC (.int 1)) (e2 dAdd (e2 dIx (eV 0) (eC (.int 1))) (eC (.int 1))) [some (.d r.d), x1, x2, x3, x4, x5, x6, x7, x8, x9, x10, x11] m = .ok (rng 1 r.b.toNat) m := by
      simp only [nRg2, Rule.d, ev_e2, ev_eC, ev_eV, List.getElem?_cons_zero, Res.bind_ok, vw_d, Option.bind_some, o_ixt, atD_1, ofO_some, o_add]
      rw [if_pos ⟨by omega, by omega⟩, show (r.b + 1 - 1).toNat = r.b.toNat by omega]
    have g3 : dAdd (.lst (rng (0 - r.a) r.a.toNat)) (.lst (rng 1 r.b.toNat)) = some (.lst ((fars r).map .int)) := by
      rw [add_lst (by simp only [rng, List.length_map, List.length_range]; omega)]
      unfold rng fars
      rw [List.map_append, List.map_map, List.map_map]
      rfl
    simp only [ev_iV, ev_e2, ev_eFz, g1, g2, Res.bind_ok, vw_d, Option.bind_some, g3, ofO_some, ev_itl]
  obtain ⟨rb, hrb⟩ : ∃ rb, rb = r.d := ⟨_, rfl⟩
  have key : ∀ (ks : List Nat) (q : Int × Int) (b8 b9 b10 b11 : Option PV), (∀ p ∈ ks, p < t2.length) → ∃ c8 c9 c10 c11, forL (tN 8) (sSeq (sAsg (tN 9) (eIf (e2 dEq (e2 dIx (eV 3) (eV 8)) (e2 dIx (eV 1) (eV 2))) (e2 dIx (eV 0) (eC (.int 2))) (eC (.int 0)))) (sSeq (sFor (tN 10) (iV (e2 dAdd (eFz (nRg2 (e2 dSub (eC (.int 0)) (e2 dIx (eV 0) (eC (.int 0)))) (eC (.int 0)))) (eFz (nRg2 (eC (.int 1)) (e2 dAdd (e2 dIx (eV 0) (eC (.int 1))) (eC (.int 1))))))) farS) (sSeq (sAsg (tN 11) (eOr (e2 dGt (eV 9) (eV 6)) (eAnd (e2 dEq (eV 9) (eV 6)) (e2 dEq (e2 dIx (eV 0) (eC (.int 4))) (eC (.str ['l', 'a', 's', 't'])))))) (sIf (eAnd (e2 dGe (eV 9) (e2 dIx (eV 0) (eC (.int 3)))) (eOr (e2 dLt (eV 7) (eC (.int 0))) (eV 11))) (sPar [6, 7] [eV 9, eV 8]) (sNil)))))
      (ks.map fun (i : Nat) => .int (0 + (i : Int))) [some (.d r.d), some (.d (.str t)), some (.d (.int n)), some (.d (.str t2)), some (.d (.str (pad t))), some (.d (.str (pad t2))), some (.d (.int q.1)), some (.d (.int q.2)), b8, b9, b10, b11] m
      = .nx [some (.d r.d), some (.d (.str t)), some (.d (.int n)), some (.d (.str t2)), some (.d (.str (pad t))), some (.d (.str (pad t2))), some (.d (.int (ks.foldl (fdSt r (scoreB r t n t2)) q).1)), some (.d (.int (ks.foldl (fdSt r (scoreB r t n t2)) q).2)), c8, c9, c10, c11] m := by
    intro ks
    induction ks with
    | nil => intro q b8 b9 b10 b11 _; exact ⟨b8, b9, b10, b11, rfl⟩
    | cons p ks ih =>
      intro q b8 b9 b10 b11 hks
      have hp : p < t2.length := hks p (by simp)
      obtain ⟨v', e⟩ := far_loop hr ht ht2 hn hp (some (.d r.d)) (some (.d (.str t))) (some (.d (.str t2))) (some (.d (.int q.1))) (some (.d (.int q.2))) b11 m (fars r) (if t2.getD p ' ' == t.getD n ' ' then r.c else 0) b10 fun f hf => fars_mem hr hf
      have es : (if t2.getD p ' ' == t.getD n ' ' then r.c else 0) + (((fars r).filter fun f => sgnB t (n + f) == sgnB t2 (p + f)).length : Int) = scoreB r t n t2 p := by
        rw [score_fars]
        omega
      rw [es] at e
      obtain ⟨c8, c9, c10, c11, e2'⟩ := ih (fdSt r (scoreB r t n t2) q p) (some (.d (.int p))) (some (.d (.int (scoreB r t n t2 p)))) v' (some (.d (.bl (decide (q.1 < scoreB r t n t2 p) || (decide (scoreB r t n t2 p = q.1) && decide (r.ties = ['l', 'a', 's', 't'])))))) fun x hx => hks x (by simp [hx])
      refine ⟨c8, c9, c10, c11, ?_⟩
      rw [List.map_cons, Int.zero_add, List.foldl_cons]
      have hs0 : sAsg (tN 9) (eIf (e2 dEq (e2 dIx (eV 3) (eV 8)) (e2 dIx (eV 1) (eV 2))) (e2 dIx (eV 0) (eC (.int 2))) (eC (.int 0))) [some (.d r.d), some (.d (.str t)), some (.d (.int n)), some (.d (.str t2)), some (.d (.str (pad t))), some (.d (.str (pad t2))), some (.d (.int q.1)), some (.d (.int q.2)), some (.d (.int p)), b9, b10, b11] m
          = .nx [some (.d r.d), some (.d (.str t)), some (.d (.int n)), some (.d (.str t2)), some (.d (.str (pad t))), some (.d (.str (pad t2))), some (.d (.int q.1)), some (.d (.int q.2)), some (.d (.int p)), some (.d (.int (if t2.getD p ' ' == t.getD n ' ' then r.c else 0))), b10, b11] m := by
        simp [hl, hl2, atD_nat, hp, hn, one_eq, Rule.d]
      have hb : (sSeq (sAsg (tN 9) (eIf (e2 dEq (e2 dIx (eV 3) (eV 8)) (e2 dIx (eV 1) (eV 2))) (e2 dIx (eV 0) (eC (.int 2))) (eC (.int 0)))) (sSeq (sFor (tN 10) (iV (e2 dAdd (eFz (nRg2 (e2 dSub (eC (.int 0)) (e2 dIx (eV 0) (eC (.int 0)))) (eC (.int 0)))) (eFz (nRg2 (eC (.int 1)) (e2 dAdd (e2 dIx (eV 0) (eC (.int 1))) (eC (.int 1))))))) farS) (sSeq (sAsg (tN 11) (eOr (e2 dGt (eV 9) (eV 6)) (eAnd (e2 dEq (eV 9) (eV 6)) (e2 dEq (e2 dIx (eV 0) (eC (.int 4))) (eC (.str ['l', 'a', 's', 't'])))))) (sIf (eAnd (e2 dGe (eV 9) (e2 dIx (eV 0) (eC (.int 3)))) (eOr (e2 dLt (eV 7) (eC (.int 0))) (eV 11))) (sPar [6, 7] [eV 9, eV 8]) (sNil)))))
          [some (.d r.d), some (.d (.str t)), some (.d (.int n)), some (.d (.str t2)), some (.d (.str (pad t))), some (.d (.str (pad t2))), some (.d (.int q.1)), some (.d (.int q.2)), some (.d (.int p)), b9, b10, b11] m
          = .nx [some (.d r.d), some (.d (.str t)), some (.d (.int n)), some (.d (.str t2)), some (.d (.str (pad t))), some (.d (.str (pad t2))), some (.d (.int (fdSt r (scoreB r t n t2) q p).1)), some (.d (.int (fdSt r (scoreB r t n t2) q p).2)), some (.d (.int p)), some (.d (.int (scoreB r t n t2 p))), v', some (.d (.bl (decide (q.1 < scoreB r t n t2 p) || (decide (scoreB r t n t2 p = q.1) && decide (r.ties = ['l', 'a', 's', 't'])))))] m := by
        rw [ev_seq, hs0, at_nx, ev_seq, ev_for, fr, Res.run_ok, e, at_nx]
        unfold fdSt
        generalize scoreB r t n t2 p = sv
        have s1 : sAsg (tN 11) (eOr (e2 dGt (eV 9) (eV 6)) (eAnd (e2 dEq (eV 9) (eV 6)) (e2 dEq (e2 dIx (eV 0) (eC (.int 4))) (eC (.str ['l', 'a', 's', 't']))))) [some (.d r.d), some (.d (.str t)), some (.d (.int n)), some (.d (.str t2)), some (.d (.str (pad t))), some (.d (.str (pad t2))), some (.d (.int q.1)), some (.d (.int q.2)), some (.d (.int p)), some (.d (.int sv)), v', b11] m
            = .nx [some (.d r.d), some (.d (.str t)), some (.d (.int n)), some (.d (.str t2)), some (.d (.str (pad t))), some (.d (.str (pad t2))), some (.d (.int q.1)), some (.d (.int q.2)), some (.d (.int p)), some (.d (.int sv)), v', some (.d (.bl (decide (q.1 < sv) || (decide (sv = q.1) && decide (r.ties = ['l', 'a', 's', 't'])))))] m := by
          by_cases z1 : q.1 < sv
          · simp [z1]
          · by_cases z2 : sv = q.1
            · have z3 : (sv == q.1) = true := by simp [z2]
              by_cases z4 : r.ties = ['l', 'a', 's', 't']
              · simp [z1, z2, z3, z4, Rule.d]
              · simp [z1, z2, z3, z4, Rule.d]
            · have z3 : (sv == q.1) = false := beq_eq_false_iff_ne.mpr z2
              simp [z1, z2, z3]
        rw [ev_seq, s1, at_nx]
        generalize hbt : (decide (q.1 < sv) || (decide (sv = q.1) && decide (r.ties = ['l', 'a', 's', 't']))) = bt
        have hbt2 : (q.1 < sv ∨ (sv = q.1 ∧ r.ties = ['l', 'a', 's', 't'])) ↔ bt = true := by
          rw [← hbt]
          simp
        by_cases z1 : r.l ≤ sv
        · by_cases z2 : q.2 < 0
          · rw [if_pos ⟨z1, .inl z2⟩]
            simp [z1, z2, Rule.d]
          · cases bt with
            | true =>
              rw [if_pos ⟨z1, .inr (hbt2.mpr rfl)⟩]
              simp [z1, z2, Rule.d]
            | false =>
              rw [if_neg (by rintro ⟨_, h | h⟩; exact z2 h; exact absurd (hbt2.mp h) (by decide))]
              simp [z1, z2, Rule.d]
        · rw [if_neg (fun h => z1 h.1)]
          simp [z1, Rule.d]
      rw [for_nx rfl hb, e2']
  obtain ⟨c8, c9, c10, c11, hk⟩ := key (List.range t2.length) (0, -1) none none none none fun p hp => List.mem_range.mp hp
  have hr0 : rng 0 t2.length = (List.range t2.length).map fun (i : Nat) => .int (0 + (i : Int)) := rfl
  rw [← hr0] at hk
  simp only [F__law_found, s__law_found, mkFn]
  simp [-o_adds, hl2, q1, q2, q3, q4, r1, hk]
end DI
namespace DI
/-! the finding gone through is the finding -/
structure IsBest (r : Rule) (sc : Nat → Int) (k s : Nat) : Prop where
  lt : s < k
  ge : r.l ≤ sc s
  mx : ∀ p, p < k → sc p ≤ sc s
  fst : r.ties = k_first → ∀ p, p < s → sc p < sc s
  lst : r.ties = ['l', 'a', 's', 't'] → ∀ p, s < p → p < k → sc p < sc s
theorem scan_inv {r : Rule} (hr : r.Ok) (sc : Nat → Int) : ∀ k : Nat, ((((List.range k).foldl (fdSt r sc) (0, -1)) = (0, -1)) ∧ ∀ p, p < k → sc p < r.l) ∨ ∃ s : Nat, ((List.range k).foldl (fdSt r sc) (0, -1)) = (sc s, (s : Int)) ∧ IsBest r sc k s
  | 0 => .inl ⟨rfl, fun p h => absurd h (Nat.not_lt_zero p)⟩
  | k + 1 => by
    rw [List.range_succ, List.foldl_append, List.foldl_cons, List.foldl_nil]
    have kf : ¬ (k_first = ['l', 'a', 's', 't']) := by decide
    rcases scan_inv hr sc k with ⟨e, h⟩ | ⟨s, e, b⟩
    · rw [e]
      unfold fdSt
      by_cases z : r.l ≤ sc k
      · rw [if_pos ⟨z, .inl (by decide)⟩]
        refine .inr ⟨k, rfl, ⟨by omega, z, fun p hp => ?_, fun _ p hp => ?_, fun _ p h1 h2 => by omega⟩⟩
        · by_cases q : p = k
          · rw [q]; exact Int.le_refl _
          · have := h p (by omega)
            omega
        · have := h p hp
          omega
      · rw [if_neg fun q => z q.1]
        refine .inl ⟨rfl, fun p hp => ?_⟩
        by_cases q : p = k
        · rw [q]; omega
        · exact h p (by omega)
    · rw [e]
      obtain ⟨b1, b2, b3, b4, b5⟩ := b
      unfold fdSt
      dsimp only
      by_cases z : r.l ≤ sc k ∧ ((s : Int) < 0 ∨ sc s < sc k ∨ (sc k = sc s ∧ r.ties = ['l', 'a', 's', 't']))
      · rw [if_pos z]
        obtain ⟨z1, z2⟩ := z
        have hge : sc s ≤ sc k := by
          rcases z2 with z2 | z2 | z2
          · omega
          · omega
          · omega
        refine .inr ⟨k, rfl, ⟨by omega, z1, fun p hp => ?_, fun ht p hp => ?_, fun _ p h1 h2 => by omega⟩⟩
        · by_cases q : p = k
          · rw [q]; exact Int.le_refl _
          · exact Int.le_trans (b3 p (by omega)) hge
        · rcases z2 with z2 | z2 | ⟨_, z2⟩
          · omega
          · exact Int.lt_of_le_of_lt (b3 p hp) z2
          · rw [ht] at z2; exact absurd z2 kf
      · rw [if_neg z]
        have hle : sc k ≤ sc s := by
          by_cases q : sc k ≤ sc s
          · exact q
          · exact absurd ⟨by omega, .inr (.inl (by omega))⟩ z
        refine .inr ⟨s, rfl, ⟨by omega, b2, fun p hp => ?_, b4, fun ht p h1 h2 => ?_⟩⟩
        · by_cases q : p = k
          · rw [q]; exact hle
          · exact b3 p (by omega)
        · by_cases q : p = k
          · rw [q]
            by_cases w : sc k = sc s
            · exact absurd ⟨by omega, .inr (.inr ⟨w, ht⟩)⟩ z
            · omega
          · exact b5 ht p h1 (by omega)
theorem bestL_range (sc : Nat → Int) (k : Nat) : bestL ((List.range k).map sc) = ((List.range k).filter fun p => sc p == maxB ((List.range k).map sc)).map fun (p : Nat) => (p : Int) := by
  unfold bestL
  generalize maxB ((List.range k).map sc) = M
  have e : ((List.range k).map sc).zipIdx = (List.range k).map fun p => (sc p, p) := by
    apply List.ext_getElem?
    intro i
    by_cases h : i < k
    · simp [h]
    · rw [List.getElem?_eq_none (by simp; omega), List.getElem?_eq_none (by simp; omega)]
  rw [e, List.filter_map, List.map_map]
  rfl
theorem maxI_ge : ∀ {ns : List Int} {k : Int}, maxI ns = some k → ∀ y, y ∈ ns → y ≤ k
  | [], _, h => by cases h
  | [a], k, h => by cases h; simp
  | a :: b :: r, k, h => by
    have h' : (match maxI (b :: r) with
      | some b => some (if a < b then b else a)
      | none => none) = some k := h
    cases h2 : maxI (b :: r) with
    | none => rw [h2] at h'; cases h'
    | some q =>
      rw [h2] at h'
      have i2 := maxI_ge h2
      have e : (if a < q then q else a) = k := Option.some.inj h'
      intro y hy
      by_cases z : a < q
      · rw [if_pos z] at e
        rcases List.mem_cons.mp hy with w | w
        · omega
        · have := i2 y w; omega
      · rw [if_neg z] at e
        rcases List.mem_cons.mp hy with w | w
        · omega
        · have := i2 y w; omega
theorem max_of {ns : List Int} {M : Int} (h1 : M ∈ ns) (h2 : ∀ x ∈ ns, x ≤ M) : maxB ns = M := by
  have hne : ns ≠ [] := by
    intro z
    rw [z] at h1
    cases h1
  obtain ⟨e, hm⟩ := maxI_some hne
  have h3 := (maxI_ge e) M h1
  exact Int.le_antisymm (h2 _ hm) h3
theorem best_of {r : Rule} (hr : r.Ok) {sc : Nat → Int} {k s : Nat} (b : IsBest r sc k s) : bestB ((List.range k).map sc) r.l r.ties = s := by
  obtain ⟨b1, b2, b3, b4, b5⟩ := b
  have hM : maxB ((List.range k).map sc) = sc s := max_of (List.mem_map.mpr ⟨s, List.mem_range.mpr b1, rfl⟩) fun x hx => by
    obtain ⟨p, hp, rfl⟩ := List.mem_map.mp hx
    exact b3 p (List.mem_range.mp hp)
  unfold bestB
  rw [hM, bestL_range, hM]
  rw [if_neg (by
    rintro (h | h)
    · have : ((List.range k).map sc).length = 0 := by rw [h]; rfl
      rw [List.length_map, List.length_range] at this
      omega
    · omega)]
  obtain ⟨d, rfl⟩ : ∃ d, k = s + (1 + d) := ⟨k - s - 1, by omega⟩
  have hsplit : List.range (s + (1 + d)) = List.range s ++ (s :: (List.range d).map fun j => s + (1 + j)) := by
    rw [List.range_add, Nat.add_comm 1 d, List.range_succ_eq_map, List.map_cons, List.map_map]
    congr 2
    apply List.map_congr_left
    intro j _
    show s + (j + 1) = s + (1 + j)
    omega
  rw [hsplit, List.filter_append, List.filter_cons_of_pos (by simp)]
  by_cases ht : r.ties = k_first
  · rw [if_pos ht]
    have e : (List.range s).filter (fun p => sc p == sc s) = [] := by
      rw [List.filter_eq_nil_iff]
      intro p hp
      have := b4 ht p (List.mem_range.mp hp)
      simp
      omega
    rw [e]
    rfl
  · rw [if_neg ht]
    have ht2 : r.ties = ['l', 'a', 's', 't'] := by
      rcases hr.ties with h | h
      · exact absurd h ht
      · exact h
    have e : ((List.range d).map fun j => s + (1 + j)).filter (fun p => sc p == sc s) = [] := by
      rw [List.filter_eq_nil_iff]
      intro p hp
      obtain ⟨j, hj, rfl⟩ := List.mem_map.mp hp
      rw [List.mem_range] at hj
      have := b5 ht2 (s + (1 + j)) (by omega) (by omega)
      simp
      omega
    rw [e]
    simp
theorem best_none {r : Rule} {sc : Nat → Int} {k : Nat} (h : ∀ p, p < k → sc p < r.l) : bestB ((List.range k).map sc) r.l r.ties = -1 := by
  unfold bestB
  rw [if_pos]
  by_cases hne : (List.range k).map sc = []
  · exact .inl hne
  · obtain ⟨e, hm⟩ := maxI_some hne
    obtain ⟨p, hp, e2⟩ := List.mem_map.mp hm
    exact .inr (by rw [← e2]; exact h p (List.mem_range.mp hp))
theorem scan_best {r : Rule} (hr : r.Ok) (sc : Nat → Int) (k : Nat) : ((List.range k).foldl (fdSt r sc) (0, -1)).2 = bestB ((List.range k).map sc) r.l r.ties := by
  rcases scan_inv hr sc k with ⟨e, h⟩ | ⟨s, e, b⟩
  · rw [e, best_none h]
  · rw [e, best_of hr b]
theorem sp_law_found' {r : Rule} (hr : r.Ok) {t t2 : List Char} (ht : t.length ≤ 100000) (ht2 : t2.length ≤ 100000) {n : Nat} (hn : n < t.length) (m : Mem) :
    F__law_found [.d r.d, .d (.str t), .d (.int n), .d (.str t2)] m = .ok (.d (.int (foundB r t n t2))) m := by
  rw [sp_law_found hr ht ht2 hn, scan_best hr]
  rfl
end DI
namespace DI
/-! lists and tuples of one kind compared -/
theorem eqvAll_str : ∀ a b : List (List Char), D.eqvAll (a.map .str) (b.map .str) = (a == b)
  | [], [] => by simp [D.eqvAll]
  | [], _ :: _ => by simp [D.eqvAll]
  | _ :: _, [] => by simp [D.eqvAll]
  | x :: a, y :: b => by
    have ih := eqvAll_str a b
    simp only [List.map_cons, D.eqvAll, ih, q_ss]
    rfl
theorem eqvAll_int : ∀ a b : List Int, D.eqvAll (a.map .int) (b.map .int) = (a == b)
  | [], [] => by simp [D.eqvAll]
  | [], _ :: _ => by simp [D.eqvAll]
  | _ :: _, [] => by simp [D.eqvAll]
  | x :: a, y :: b => by
    have ih := eqvAll_int a b
    simp only [List.map_cons, D.eqvAll, ih, q_ii]
    rfl
theorem eq_row (a b : List (List Char)) : dEq (.tup (a.map .str)) (.tup (b.map .str)) = some (.bl (a == b)) := by
  unfold dEq
  rw [if_pos (by simp [D.dep, depAll_str])]
  simp [D.eqv, eqvAll_str]
theorem ne_row (a b : List (List Char)) : dNe (.tup (a.map .str)) (.tup (b.map .str)) = some (.bl (!(a == b))) := by
  unfold dNe
  rw [if_pos (by simp [D.dep, depAll_str])]
  simp [D.eqv, eqvAll_str]
theorem depAll_ints : ∀ ns : List Int, D.depAll (ns.map .int) = 0
  | [] => by simp [D.depAll]
  | n :: ns => by simp [D.depAll, D.dep, depAll_ints ns]
theorem eq_ints (a b : List Int) : dEq (.lst (a.map .int)) (.lst (b.map .int)) = some (.bl (a == b)) := by
  unfold dEq
  rw [if_pos (by simp [D.dep, depAll_ints])]
  simp [D.eqv, eqvAll_int]
theorem ne_ints (a b : List Int) : dNe (.lst (a.map .int)) (.lst (b.map .int)) = some (.bl (!(a == b))) := by
  unfold dNe
  rw [if_pos (by simp [D.dep, depAll_ints])]
  simp [D.eqv, eqvAll_int]
theorem notIn_row (s : List Char) (a : List (List Char)) : dNotIn (.str s) (.tup (a.map .str)) = some (.bl (!a.contains s)) := by
  have e : (a.map D.str).all flatD = true := by
    rw [List.all_eq_true]
    intro x hx
    obtain ⟨c, _, rfl⟩ := List.mem_map.mp hx
    rfl
  have e2 : ((a.map D.str).any fun y => D.eqv y (.str s)) = a.contains s := by
    clear e
    induction a with
    | nil => rfl
    | cons x a ih =>
      rw [List.map_cons, List.any_cons, ih, q_ss, List.contains_cons]
      congr 1
      rw [Bool.eq_iff_iff]
      simp only [beq_iff_eq]
      exact eq_comm
  unfold dNotIn
  rw [o_int_, e, if_pos rfl, e2]
/-! x in fates, fates.index(x) -/
theorem firstIx_int (x : Int) : ∀ (fs : List Int) (a : Nat), (match firstIx (.int x) (fs.map .int) with | some j => ((a + j : Nat) : Int) | none => -1) = ixA x a fs ∧ ((firstIx (.int x) (fs.map .int)).isSome = (fs.map D.int).any fun y => D.eqv y (.int x))
  | [], a => ⟨rfl, rfl⟩
  | f :: fs, a => by
    obtain ⟨h1, h2⟩ := firstIx_int x fs (a + 1)
    simp only [List.map_cons, firstIx, ixA, List.any_cons]
    rw [q_ii]
    by_cases h : f = x
    · subst h
      simp
    · have : (f == x) = false := beq_eq_false_iff_ne.mpr h
      rw [this, if_neg h, Bool.false_or, ← h2]
      simp only [Bool.false_eq_true, if_false]
      cases hq : firstIx (.int x) (fs.map D.int) with
      | none => rw [hq] at h1; exact ⟨h1, rfl⟩
      | some j =>
        rw [hq] at h1
        refine ⟨?_, rfl⟩
        rw [← h1]
        show ((a + (j + 1) : Nat) : Int) = ((a + 1 + j : Nat) : Int)
        congr 1
        omega
theorem flat_ints (fs : List Int) : (fs.map D.int).all flatD = true := by
  rw [List.all_eq_true]
  intro x hx
  obtain ⟨c, _, rfl⟩ := List.mem_map.mp hx
  rfl
/-- ends.index(place) if place in ends else -1 -/
theorem ev_ix {i j : Nat} {ρ : Env} {m : Mem} {fs : List Int} {x : Int} (hi : ρ[i]? = some (some (.d (.lst (fs.map .int))))) (hj : ρ[j]? = some (some (.d (.int x)))) :
    (eIf (e2 dIn (eV j) (eV i)) (eMeth dIndex (eV i) (eV j)) (e1 dNeg (eC (.int 1)))) ρ m = .ok (.d (.int (ixA x 0 fs))) m := by
  obtain ⟨h1, h2⟩ := firstIx_int x fs 0
  have e1 : dIn (.int x) (.lst (fs.map .int)) = some (.bl ((fs.map D.int).any fun y => D.eqv y (.int x))) := by
    unfold dIn
    dsimp only
    rw [flat_ints]
    rfl
  have e2 : dIndex (.lst (fs.map .int)) (.int x) = (firstIx (.int x) (fs.map .int)).map fun (j : Nat) => .int j := by
    unfold dIndex
    dsimp only
    rw [flat_ints]
    rfl
  rw [← h2] at e1
  simp only [ev_eIf, ev_e2, ev_eV, hi, hj, Res.bind_ok, vw_d, Option.bind_some, e1, ofO_some, tst_bl]
  cases hq : firstIx (.int x) (fs.map D.int) with
  | none =>
    rw [hq] at h1
    rw [← h1]
    simp
  | some j =>
    rw [hq] at h1 e2
    rw [← h1]
    simp [eMeth, hi, hj, e2]
theorem lc_inv {i j : Nat} {ρ : Env} {m : Mem} {fs : List Int} (hij : i ≠ j) (hi : ρ[i]? = some (some (.d (.lst (fs.map .int))))) (hj : j < ρ.length) (k : Nat) :
    lcL (tN j) tsY (eIf (e2 dIn (eV j) (eV i)) (eMeth dIndex (eV i) (eV j)) (e1 dNeg (eC (.int 1)))) (rng 0 k) ρ m [] = .ok ((inv fs k).map .int) m := by
  have e : (inv fs k).map D.int = (List.range k).map fun (p : Nat) => D.int (ixA (p : Int) 0 fs) := by
    unfold inv
    rw [List.map_map]
    rfl
  rw [e]
  unfold rng
  exact lcL_all (g := fun (p : Nat) => D.int (ixA (p : Int) 0 fs)) _ fun p _ => ⟨_, rfl, by
    have := ev_ix (i := i) (j := j) (ρ := ρ.set j (some (.d (.int (0 + (p : Int)))))) (m := m) (fs := fs) (x := 0 + (p : Int)) (by rw [List.getElem?_set_ne (Ne.symm hij)]; exact hi) (List.getElem?_set_self hj)
    rw [Int.zero_add] at this ⊢
    exact this⟩
end DI
namespace DI
/-! _law_same -/
def srt : D → Int
  | .bl _ => 1 | .int _ => 2 | .str _ => 3 | .lst _ => 4 | .tup _ => 5 | _ => 6
def D.plain : D → Bool
  | .dct _ _ => false | .ins _ _ _ => false | _ => true
theorem sp_sort {x : D} (h : x.plain = true) (m : Mem) : F__law_sort [.d x] m = .ok (.d (.int (srt x))) m := by
  simp only [F__law_sort, s__law_sort, mkFn]
  cases x with
  | dct _ _ => cases h
  | ins _ _ _ => cases h
  | _ => simp [dIsiP, tyP, srt]
theorem eqv_self : ∀ b : Bool, D.eqv (.bl b) (.bl b) = true := by intro b; cases b <;> rfl
/-- what is no list, no tuple -/
def D.one : D → Bool
  | .bl _ => true | .int _ => true | .str _ => true | .non => true | _ => false
theorem same_one (r : Nat) {x : D} (h : x.one = true) (m : Mem) : R__law_same (r + 1) [.d x, .d x] m = .ok (.d (.bl true)) m := by
  have hp : x.plain = true := by cases x <;> first | rfl | cases h
  have e : dEq x x = some (.bl true) := by
    cases x with
    | bl b => cases b <;> rfl
    | int i => simp
    | str s => simp
    | non => rfl
    | _ => cases h
  show mkFn 4 (s__law_same (R__law_same r)) [.d x, .d x] m = _
  simp only [s__law_same, mkFn]
  have hs : ¬ (3 < srt x ∧ srt x < 6) := by cases x <;> simp [srt] <;> cases h
  by_cases h3 : 3 < srt x
  · have h6 : ¬ srt x < 6 := fun z => hs ⟨h3, z⟩
    simp [sp_sort hp, h3, h6, e]
  · simp [sp_sort hp, h3, e]
theorem same_seq (r : Nat) {x : D} {xs : List D} (h : x = .lst xs ∨ x = .tup xs) (hl : xs.length ≤ 1000000) (m : Mem) (hx : ∀ y ∈ xs, R__law_same r [.d y, .d y] m = .ok (.d (.bl true)) m) : R__law_same (r + 1) [.d x, .d x] m = .ok (.d (.bl true)) m := by
  have hp : x.plain = true := by rcases h with rfl | rfl <;> rfl
  have h3 : 3 < srt x := by rcases h with rfl | rfl <;> simp [srt]
  have h6 : srt x < 6 := by rcases h with rfl | rfl <;> simp [srt]
  have hl2 : xs.length ≤ 16777216 := by omega
  have hlen : dLen x = some (.int xs.length) := by rcases h with rfl | rfl <;> simp [hl2]
  have hit : itD x = some xs := by rcases h with rfl | rfl <;> rfl
  have hix : ∀ i : Nat, (hi : i < xs.length) → dIx x (.int i) = some xs[i] := by
    intro i hi
    rcases h with rfl | rfl
    · rw [o_ixl, atD_nat]; simp [hi]
    · rw [o_ixt, atD_nat]; simp [hi]
  show mkFn 4 (s__law_same (R__law_same r)) [.d x, .d x] m = _
  simp only [s__law_same, mkFn]
  have hml : (xs.mapIdx fun i x => D.tup [.int i, x]).length ≤ 16777216 := by simp [hl2]
  have hme : (xs.mapIdx fun i x => D.tup [.int i, x]) = (List.range xs.length).map fun (i : Nat) => D.tup [.int (i : Int), xs.getD i .non] := by
    apply List.ext_getElem
    · simp
    · intro i h1 h2
      have : i < xs.length := by simpa using h1
      simp [this]
  have hlc : lcL (tT [2, 3]) (eNot (eCall (R__law_same r) [eV 3, e2 dIx (eV 1) (eV 2)])) (eV 2) (xs.mapIdx fun i x => D.tup [.int i, x]) [some (.d x), some (.d x), none, none] m [] = .ok [] m := by
    rw [hme]
    rw [lcL_map (p := fun _ => false) (g := fun _ => D.non) (k := fun (i : Nat) => D.tup [.int (i : Int), xs.getD i .non]) _ _ (fun i hi => ?_)]
    · simp
    · have hi' : i < xs.length := by simpa using hi
      refine ⟨_, rfl, ?_, fun z => nomatch z⟩
      have := hx xs[i] (List.getElem_mem hi')
      simp [hix i hi', hi', this]
  have hen : dEq (.lst []) (.lst []) = some (.bl true) := eq_nil []
  simp [sp_sort hp, h3, h6, hlen, hit, hlc, hen, hl2]
theorem same_int (i : Int) (m : Mem) : F__law_same [.d (.int i), .d (.int i)] m = .ok (.d (.bl true)) m := same_one 3 rfl m
theorem same_str (s : List Char) (m : Mem) : F__law_same [.d (.str s), .d (.str s)] m = .ok (.d (.bl true)) m := same_one 3 rfl m
theorem same_ints {xs : List Int} (h : xs.length ≤ 1000000) (m : Mem) : F__law_same [.d (.lst (xs.map .int)), .d (.lst (xs.map .int))] m = .ok (.d (.bl true)) m :=
  same_seq 3 (.inl rfl) (by simpa using h) m fun y hy => by
    obtain ⟨i, _, rfl⟩ := List.mem_map.mp hy
    exact same_one 2 rfl m
end DI
namespace DI
/-! what is a rule: the program's answer and the law's -/
def intIn (x : D) (lo hi : Int) : Bool := match x with
  | .int i => decide (lo ≤ i) && decide (i ≤ hi)
  | _ => false
def tieB : D → Bool
  | .str s => s == k_first || s == ['l', 'a', 's', 't']
  | _ => false
theorem sp_from {x : D} (h : x.one = true) (lo hi : Int) (m : Mem) : F_is_from [.d x, .d (.int lo), .d (.int hi)] m = .ok (.d (.bl (intIn x lo hi))) m := by
  simp only [F_is_from, s_is_from, mkFn]
  cases x with
  | bl b => simp [dIsiP, tyP, intIn]
  | int i => simp [dIsiP, tyP, intIn]
  | str s => simp [dIsiP, tyP, intIn]
  | non => simp [dIsiP, tyP, intIn]
  | _ => cases h
theorem isi_int {x : D} (h : x.one = true) : dIsiP "int" x = some (.bl x.isInt) := by
  cases x <;> first | (simp [dIsiP, tyP, D.isInt]; done) | cases h
theorem isi_bool {x : D} (h : x.one = true) : dIsiP "bool" x = some (.bl x.isBl) := by
  cases x <;> first | (simp [dIsiP, tyP, D.isBl]; done) | cases h
theorem isi_str {x : D} (h : x.one = true) : dIsiP "str" x = some (.bl x.isStr) := by
  cases x <;> first | (simp [dIsiP, tyP, D.isStr]; done) | cases h
theorem one_flat {x : D} (h : x.one = true) : flatD x = true := by
  cases x <;> first | rfl | cases h
theorem tie_in {x : D} (h : x.one = true) : dIn x (.tup [.str k_first, .str ['l', 'a', 's', 't']]) = some (.bl (tieB x)) := by
  cases x with
  | str s =>
    simp [tieB]
    rw [Bool.eq_iff_iff]
    simp only [Bool.or_eq_true, beq_iff_eq]
    constructor <;> rintro (h | h) <;> simp [h]
  | bl b => cases b <;> rfl
  | int i => rfl
  | non => rfl
  | _ => cases h
theorem tie_notin {x : D} (h : x.one = true) : dNotIn x (.lst [.str k_first, .str ['l', 'a', 's', 't']]) = some (.bl (!tieB x)) := by
  have e : dIn x (.lst [.str k_first, .str ['l', 'a', 's', 't']]) = some (.bl (tieB x)) := tie_in h
  unfold dNotIn
  rw [e]
theorem sp_rule5 {a b c l t : D} (ha : a.one = true) (hb : b.one = true) (hc : c.one = true) (hl : l.one = true) (ht : t.one = true) (m : Mem) :
    F_is_rule_of [.d (.tup [a, b, c, l, t])] m = .ok (.d (.bl (intIn a 0 3 && intIn b 0 3 && intIn c 0 4 && intIn l 1 10 && tieB t))) m := by
  simp only [F_is_rule_of, s_is_rule_of, mkFn]
  have hs : tieB t = (t.isStr && tieB t) := by cases t <;> simp [tieB, D.isStr]
  have et : dIsiP "tuple" (.tup [a, b, c, l, t]) = some (.bl true) := by simp [dIsiP, tyP]
  have e7 := isi_str ht
  rw [hs]
  generalize e2 : intIn a 0 3 = q1
  generalize e3 : intIn b 0 3 = q2
  generalize e4 : intIn c 0 4 = q3
  generalize e5 : intIn l 1 10 = q4
  simp [et, sp_from ha, sp_from hb, sp_from hc, sp_from hl, e2, e3, e4, e5]
  have et2 := tie_in ht
  clear hs
  generalize t.isStr = q5 at e7
  cases q1 <;> cases q2 <;> cases q3 <;> cases q4 <;> cases q5 <;> simp [e7, -o_int_, et2]
theorem in_int {x : D} {lo hi : Int} (h : intIn x lo hi = true) : x.isInt = true ∧ x.isBl = false := by
  cases x <;> first | exact ⟨rfl, rfl⟩ | cases h
theorem ones_dep : ∀ xs : List D, D.depAll (xs.map fun _ => D.int 1) = 0
  | [] => by simp [D.depAll]
  | x :: xs => by simp [D.depAll, D.dep, ones_dep xs]
theorem ne_nil1 (xs : List D) : dNe (.lst (xs.map fun _ => D.int 1)) (.lst []) = some (.bl (!xs.isEmpty)) := by
  unfold dNe
  rw [if_pos (by simp [D.dep, ones_dep, D.depAll])]
  cases xs <;> simp [D.eqv, D.eqvAll]
theorem sp_lrule5 {a b c l t : D} (ha : a.one = true) (hb : b.one = true) (hc : c.one = true) (hl : l.one = true) (ht : t.one = true) (m : Mem) :
    F__law_is_rule [.d (.tup [a, b, c, l, t])] m = .ok (.d (.bl (intIn a 0 3 && intIn b 0 3 && intIn c 0 4 && intIn l 1 10 && tieB t))) m := by
  simp only [F__law_is_rule, s__law_is_rule, mkFn]
  have et : dIsiP "tuple" (.tup [a, b, c, l, t]) = some (.bl true) := by simp [dIsiP, tyP]
  have hall : ∀ x ∈ [a, b, c, l], x.one = true := by
    intro x hx
    simp only [List.mem_cons, List.not_mem_nil, or_false] at hx
    rcases hx with rfl | rfl | rfl | rfl <;> assumption
  have cut : cutD [a, b, c, l, t] none (some 4) = [a, b, c, l] := rfl
  have c1 : lcL (tN 1) (eNot (e1 (dIsiP "int") (eV 1))) (eC (.int 1)) [a, b, c, l] [some (.d (.tup [a, b, c, l, t])), none] m [] = .ok (([a, b, c, l].filter fun x => !x.isInt).map fun _ => .int 1) m := by
    have := lcL_map (tg := tN 1) (ts := eNot (e1 (dIsiP "int") (eV 1))) (e := eC (.int 1)) (ρ := [some (.d (.tup [a, b, c, l, t])), none]) (m := m) (p := fun x : D => !x.isInt) (g := fun _ => .int 1) (k := id) [a, b, c, l] []
      (fun x hx => ⟨_, rfl, by simp [isi_int (hall x hx)], fun _ => rfl⟩)
    simpa using this
  have c2 : lcL (tN 1) (e1 (dIsiP "bool") (eV 1)) (eC (.int 1)) [a, b, c, l] [some (.d (.tup [a, b, c, l, t])), none] m [] = .ok (([a, b, c, l].filter fun x => x.isBl).map fun _ => .int 1) m := by
    have := lcL_map (tg := tN 1) (ts := e1 (dIsiP "bool") (eV 1)) (e := eC (.int 1)) (ρ := [some (.d (.tup [a, b, c, l, t])), none]) (m := m) (p := fun x : D => x.isBl) (g := fun _ => .int 1) (k := id) [a, b, c, l] []
      (fun x hx => ⟨_, rfl, by simp [isi_bool (hall x hx)], fun _ => rfl⟩)
    simpa using this
  generalize f1 : [a, b, c, l].filter (fun x => !x.isInt) = F1 at c1
  generalize f2 : [a, b, c, l].filter (fun x => x.isBl) = F2 at c2
  have n1 := ne_nil1 F1
  have n2 := ne_nil1 F2
  generalize (F1.map fun _ => D.int 1) = L1 at c1 n1
  generalize (F2.map fun _ => D.int 1) = L2 at c2 n2
  cases hF : F1 with
  | cons x xs =>
    have hx : x ∈ [a, b, c, l].filter (fun x => !x.isInt) := by rw [f1, hF]; simp
    obtain ⟨hx1, hx2⟩ := List.mem_filter.mp hx
    have hR : (intIn a 0 3 && intIn b 0 3 && intIn c 0 4 && intIn l 1 10 && tieB t) = false := by
      cases hR : (intIn a 0 3 && intIn b 0 3 && intIn c 0 4 && intIn l 1 10 && tieB t) with
      | false => rfl
      | true =>
        simp only [Bool.and_eq_true] at hR
        have : x.isInt = true := by
          simp only [List.mem_cons, List.not_mem_nil, or_false] at hx1
          rcases hx1 with rfl | rfl | rfl | rfl
          · exact (in_int hR.1.1.1.1).1
          · exact (in_int hR.1.1.1.2).1
          · exact (in_int hR.1.1.2).1
          · exact (in_int hR.1.2).1
        rw [this] at hx2
        cases hx2
    rw [hR]
    rw [hF] at n1
    simp [et, cut, c1, n1]
  | nil =>
    rw [hF] at n1
    cases hF2 : F2 with
    | cons x xs =>
      have hx : x ∈ [a, b, c, l].filter (fun x => x.isBl) := by rw [f2, hF2]; simp
      obtain ⟨hx1, hx2⟩ := List.mem_filter.mp hx
      have hR : (intIn a 0 3 && intIn b 0 3 && intIn c 0 4 && intIn l 1 10 && tieB t) = false := by
        cases hR : (intIn a 0 3 && intIn b 0 3 && intIn c 0 4 && intIn l 1 10 && tieB t) with
        | false => rfl
        | true =>
          simp only [Bool.and_eq_true] at hR
          have : x.isBl = false := by
            simp only [List.mem_cons, List.not_mem_nil, or_false] at hx1
            rcases hx1 with rfl | rfl | rfl | rfl
            · exact (in_int hR.1.1.1.1).2
            · exact (in_int hR.1.1.1.2).2
            · exact (in_int hR.1.1.2).2
            · exact (in_int hR.1.2).2
          rw [this] at hx2
          cases hx2
      rw [hR]
      rw [hF2] at n2
      simp at n1
      simp [et, cut, c1, n1, c2, n2]
    | nil =>
      rw [hF2] at n2
      have isI : ∀ x ∈ [a, b, c, l], ∃ i, x = .int i := by
        intro x hx
        have h1 : x.isInt = true := by
          cases hq : x.isInt with
          | true => rfl
          | false =>
            have : x ∈ [a, b, c, l].filter (fun x => !x.isInt) := List.mem_filter.mpr ⟨hx, by simp [hq]⟩
            rw [f1, hF] at this
            cases this
        have h2 : x.isBl = false := by
          cases hq : x.isBl with
          | false => rfl
          | true =>
            have : x ∈ [a, b, c, l].filter (fun x => x.isBl) := List.mem_filter.mpr ⟨hx, hq⟩
            rw [f2, hF2] at this
            cases this
        cases x with
        | int i => exact ⟨i, rfl⟩
        | bl b => cases h2
        | _ => cases h1
      obtain ⟨a', rfl⟩ := isI a (by simp)
      obtain ⟨b', rfl⟩ := isI b (by simp)
      obtain ⟨c', rfl⟩ := isI c (by simp)
      obtain ⟨l', rfl⟩ := isI l (by simp)
      simp at n1 n2
      have tn := tie_notin ht
      generalize tieB t = q5 at tn
      simp [et, cut, c1, n1, c2, n2, -o_inl_, tn, intIn]
      cases q5 with
      | false => simp
      | true =>
        simp [Bool.and_assoc]
/-- no tuple of five -/
def noR : D → Bool
  | .tup xs => decide (xs.length ≠ 5) && decide (xs.length ≤ 100)
  | .lst _ => true
  | .non => true
  | _ => false
theorem sp_norule {v : D} (h : noR v = true) (m : Mem) : F_is_rule_of [.d v] m = .ok (.d (.bl false)) m ∧ F__law_is_rule [.d v] m = .ok (.d (.bl false)) m := by
  simp only [F_is_rule_of, s_is_rule_of, F__law_is_rule, s__law_is_rule, mkFn]
  cases v with
  | tup xs =>
    simp only [noR, Bool.and_eq_true, decide_eq_true_eq] at h
    have h5 : ((xs.length : Int) == 5) = false := beq_eq_false_iff_ne.mpr (by omega)
    have hl : xs.length ≤ 16777216 := by omega
    simp [dIsiP, tyP, hl, h5]
  | lst xs => simp [dIsiP, tyP]
  | non => simp [dIsiP, tyP]
  | _ => cases h
end DI
namespace DI
theorem sp_no_rules {m : Mem} {i : Nat} {n : Int} (h : DeckAt m i n) (hn : n ≤ 10000000) :
    ∃ x0 x1 x2 x3 x4 y4 y6 ys m', F__law_no_rules [.obj i] m = .ok (.d (.lst [.tup [x0, x1, x2, x3, x4], .tup y4, .tup y6, .lst ys, .non])) m' ∧ (x0.one = true ∧ x1.one = true ∧ x2.one = true ∧ x3.one = true ∧ x4.one = true) ∧ y4.length = 4 ∧ y6.length = 6 ∧
      DeckAt m' i (n + 10) ∧ m'.length = m.length ∧ ∀ j, j ≠ i → m'[j]? = m[j]? := by
  obtain ⟨r, m1, e1', hr, d1, l1, x1⟩ := sp_rule h (by omega)
  obtain ⟨g, m2, p2, a2, b2, d2, l2, x2⟩ := sp_pick (lim := 5) d1 (by omega) (by decide) (by decide)
  obtain ⟨g3, m3, p3, a3, b3, d3, l3, x3⟩ := sp_pick (lim := 11) d2 (by omega) (by decide) (by decide)
  obtain ⟨odd, e3', hm⟩ := pick_of (xs := [.int (-1), .int 4, .int 5, .int 11, .int 0, .non, .bl true, .str ['n', 'e', 'a', 'r'], .str [], .int 2, .str k_first]) rfl g3 a3 b3
  have ho : odd.one = true := by
    simp only [List.mem_cons, List.not_mem_nil, or_false] at hm
    rcases hm with rfl | rfl | rfl | rfl | rfl | rfl | rfl | rfl | rfl | rfl | rfl <;> rfl
  have hsq : nSqA (eCall F__law_rule [eV 0]) [some (.obj i), none, none, none] m = .ok [.int r.a, .int r.b, .int r.c, .int r.l, .str r.ties] m1 := by
    unfold nSqA
    simp [e1', Rule.d]
  have kp : ∀ j, j ≠ i → m3[j]? = m[j]? := fun j hj => by rw [x3 j hj, x2 j hj, x1 j hj]
  have hat : g = 0 ∨ g = 1 ∨ g = 2 ∨ g = 3 ∨ g = 4 := by omega
  simp only [F__law_no_rules, s__law_no_rules, mkFn]
  have hlen : m3.length = m.length := by omega
  have tk : m3.take m.length = m3 := List.take_of_length_le (by omega)
  rcases hat with rfl | rfl | rfl | rfl | rfl
  · refine ⟨odd, .int r.b, .int r.c, .int r.l, .str r.ties, [.int r.a, .int r.b, .int r.c, .int r.l], [.int r.a, .int r.b, .int r.c, .int r.l, .str r.ties, .int 1], [.int r.a, .int r.b, .int r.c, .int r.l, .str r.ties], m3, ?_, ⟨ho, rfl, rfl, rfl, rfl⟩, rfl, rfl, d3.mono (by omega), hlen, kp⟩
    simp [-o_ixl, hsq, p2, p3, e3', tk, cutD, sixD]
  · refine ⟨.int r.a, odd, .int r.c, .int r.l, .str r.ties, [.int r.a, .int r.b, .int r.c, .int r.l], [.int r.a, .int r.b, .int r.c, .int r.l, .str r.ties, .int 1], [.int r.a, .int r.b, .int r.c, .int r.l, .str r.ties], m3, ?_, ⟨rfl, ho, rfl, rfl, rfl⟩, rfl, rfl, d3.mono (by omega), hlen, kp⟩
    simp [-o_ixl, hsq, p2, p3, e3', tk, cutD, sixD]
  · refine ⟨.int r.a, .int r.b, odd, .int r.l, .str r.ties, [.int r.a, .int r.b, .int r.c, .int r.l], [.int r.a, .int r.b, .int r.c, .int r.l, .str r.ties, .int 1], [.int r.a, .int r.b, .int r.c, .int r.l, .str r.ties], m3, ?_, ⟨rfl, rfl, ho, rfl, rfl⟩, rfl, rfl, d3.mono (by omega), hlen, kp⟩
    simp [-o_ixl, hsq, p2, p3, e3', tk, cutD, sixD]
  · refine ⟨.int r.a, .int r.b, .int r.c, odd, .str r.ties, [.int r.a, .int r.b, .int r.c, .int r.l], [.int r.a, .int r.b, .int r.c, .int r.l, .str r.ties, .int 1], [.int r.a, .int r.b, .int r.c, .int r.l, .str r.ties], m3, ?_, ⟨rfl, rfl, rfl, ho, rfl⟩, rfl, rfl, d3.mono (by omega), hlen, kp⟩
    simp [-o_ixl, hsq, p2, p3, e3', tk, cutD, sixD]
  · refine ⟨.int r.a, .int r.b, .int r.c, .int r.l, odd, [.int r.a, .int r.b, .int r.c, .int r.l], [.int r.a, .int r.b, .int r.c, .int r.l, .str r.ties, .int 1], [.int r.a, .int r.b, .int r.c, .int r.l, .str r.ties], m3, ?_, ⟨rfl, rfl, rfl, rfl, ho⟩, rfl, rfl, d3.mono (by omega), hlen, kp⟩
    simp [-o_ixl, hsq, p2, p3, e3', tk, cutD, sixD]
/-! anchors, from a text with marks around it -/
theorem cut_at {α : Type} (xs : List α) (i j : Nat) (hij : i ≤ j) (hj : j ≤ xs.length) : cutD xs (some (i : Int)) (some (j : Int)) = (List.range (j - i)).filterMap fun k => xs[i + k]? := by
  unfold cutD sixD
  have h1 : ¬ ((i : Int) < 0) := by omega
  have h2 : ¬ ((j : Int) < 0) := by omega
  simp only [h1, h2, if_false, Int.toNat_natCast]
  have e1 : min i xs.length = i := by omega
  have e2 : min j xs.length = j := by omega
  rw [e1, e2]
  have : ∀ (n : Nat) (ys : List α), n ≤ ys.length → ys.take n = (List.range n).filterMap fun k => ys[k]? := by
    intro n
    induction n with
    | zero => intro ys _; rfl
    | succ n ih =>
      intro ys hn
      rw [List.range_succ, List.filterMap_append, ← ih ys (by omega), List.take_succ]
      have hn' : n < ys.length := by omega
      simp [hn']
  rw [this _ _ (by rw [List.length_drop]; omega)]
  congr 1
  funext k
  rw [List.getElem?_drop]
theorem pad_len (t : List Char) : (pad t).length = t.length + 6 := by simp [pad]
theorem pad_get {t : List Char} {p : Nat} (h : p < t.length + 6) : (pad t)[p]? = some (sgnB t ((p : Int) - 3)) := by
  have := pad_at t ((p : Int) - 3) (by omega) (by omega)
  rw [show (p : Int) - 3 + 3 = (p : Int) by omega, atD_nat] at this
  exact this
theorem fm_map {α β : Type} (f : α → Option β) (g : α → β) : ∀ l : List α, (∀ x ∈ l, f x = some (g x)) → l.filterMap f = l.map g
  | [], _ => rfl
  | x :: l, h => by
    rw [List.filterMap_cons, h x (by simp), List.map_cons, fm_map f g l fun y hy => h y (by simp [hy])]
theorem pad_cut {t : List Char} {i j : Nat} (hij : i ≤ j) (hj : j ≤ t.length + 6) : cutD (pad t) (some (i : Int)) (some (j : Int)) = (List.range (j - i)).map fun (k : Nat) => sgnB t ((i : Int) - 3 + (k : Int)) := by
  rw [cut_at _ i j hij (by rw [pad_len]; exact hj)]
  refine fm_map _ _ _ fun k hk => ?_
  have hk' : k < j - i := by simpa using hk
  rw [pad_get (by omega)]
  congr 2
  omega
theorem sp_lanchor {r : Rule} (hr : r.Ok) {t : List Char} (ht : t.length ≤ 100000) {n : Nat} (hn : n < t.length) (m : Mem) :
    F__law_anchor [.d r.d, .d (.str t), .d (.int n)] m = .ok (.d (anchorD r t n)) m := by
  obtain ⟨a1, a2⟩ := hr.a
  obtain ⟨b1, b2⟩ := hr.b
  simp only [F__law_anchor, s__law_anchor, mkFn]
  have w1 : dMulD (.str ['^']) (.int 3) = some (.str ['^', '^', '^']) := by simp [dMulD, lineL]
  have w2 : dMulD (.str ['$']) (.int 3) = some (.str ['$', '$', '$']) := by simp [dMulD, lineL]
  have hl1 : 3 + t.length ≤ 16777216 := by omega
  have hl2 : 3 + t.length + 3 ≤ 16777216 := by omega
  have hl3 : t.length ≤ 16777210 := by omega
  have hl4 : t.length ≤ 16777216 := by omega
  have hp : ['^', '^', '^'] ++ t ++ ['$', '$', '$'] = pad t := rfl
  have hpl : (pad t).length ≤ 16777216 := by rw [pad_len]; omega
  obtain ⟨a, ha⟩ : ∃ a : Nat, r.a = a := ⟨r.a.toNat, by omega⟩
  obtain ⟨b, hb⟩ : ∃ b : Nat, r.b = b := ⟨r.b.toNat, by omega⟩
  have c1 : cutD (pad t) (some ((n : Int) + 3 - r.a)) (some ((n : Int) + 3)) = befB r.a t n := by
    rw [ha, show (n : Int) + 3 - (a : Int) = ((n + 3 - a : Nat) : Int) by omega, show (n : Int) + 3 = ((n + 3 : Nat) : Int) by omega, pad_cut (by omega) (by omega)]
    unfold befB
    rw [Int.toNat_natCast, show n + 3 - (n + 3 - a) = a by omega]
    refine List.map_congr_left fun k _ => ?_
    congr 1
    omega
  have c2 : cutD (pad t) (some ((n : Int) + 4)) (some ((n : Int) + 4 + r.b)) = aftB r.b t n := by
    rw [hb, show (n : Int) + 4 = ((n + 4 : Nat) : Int) by omega, show ((n + 4 : Nat) : Int) + (b : Int) = ((n + 4 + b : Nat) : Int) by omega, pad_cut (by omega) (by omega)]
    unfold aftB
    rw [Int.toNat_natCast, show n + 4 + b - (n + 4) = b by omega]
    refine List.map_congr_left fun k _ => ?_
    congr 1
    omega
  have hx : t[n]? = some t[n] := List.getElem?_eq_getElem hn
  simp [-o_mul, w1, w2, Rule.d, add_str, hl1, hl2, hl3, hl4, hp, c1, c2, hpl, atD_nat, hn, anchorD]
  exact ⟨c1, c2⟩
end DI
namespace DI
/-! anchors are anchors -/
theorem drop_letters (mk : Char) : ∀ (k : Nat) (f : Nat → Char) (j : Nat), (∀ i, i < k → (i < j → f i = mk) ∧ (j ≤ i → SG.contains (f i) = true)) → ∀ c ∈ ((List.range k).map f).dropWhile (fun c => [mk].contains c), SG.contains c = true
  | 0, f, j, _, c, hc => by simp at hc
  | k + 1, f, j, h, c, hc => by
    rw [List.range_succ_eq_map, List.map_cons, List.map_map] at hc
    cases j with
    | zero =>
      have hm := (List.dropWhile_suffix (fun c => [mk].contains c)).subset hc
      rcases List.mem_cons.mp hm with rfl | hm
      · exact (h 0 (by omega)).2 (by omega)
      · obtain ⟨i, hi, rfl⟩ := List.mem_map.mp hm
        have hi' : i < k := by simpa using hi
        exact (h (i + 1) (by omega)).2 (by omega)
    | succ j =>
      have e0 : f 0 = mk := (h 0 (by omega)).1 (by omega)
      rw [List.dropWhile_cons, e0, if_pos (by simp)] at hc
      exact drop_letters mk k (f ∘ Nat.succ) j (fun i hi => ⟨fun hij => (h (i + 1) (by omega)).1 (by omega), fun hij => (h (i + 1) (by omega)).2 (by omega)⟩) c hc
theorem range_rev (k : Nat) (f : Nat → Char) : ((List.range k).map f).reverse = (List.range k).map fun i => f (k - 1 - i) := by
  apply List.ext_getElem
  · simp
  · intro i h1 h2
    simp
theorem sgn_in {t : List Char} (ht : isTB t = true) {p : Int} (h0 : 0 ≤ p) (h1 : p < t.length) : SG.contains (sgnB t p) = true := by
  unfold sgnB
  rw [if_neg (by omega)]
  have : p.toNat < t.length := by omega
  have e : t.getD p.toNat '$' = t[p.toNat] := by simp [this]
  rw [e]
  exact tb_sg ht _ (List.getElem_mem this)
theorem bef_letters {t : List Char} (ht : isTB t = true) {n : Nat} (hn : n < t.length) (a : Int) (ha : 0 ≤ a) : ∀ c ∈ (befB a t n).dropWhile (fun c => ['^'].contains c), SG.contains c = true := by
  unfold befB
  refine drop_letters '^' _ _ (a - n).toNat fun i hi => ⟨fun h => ?_, fun h => sgn_in ht (by omega) (by omega)⟩
  unfold sgnB
  rw [if_pos (by omega)]
theorem aft_letters {t : List Char} (ht : isTB t = true) {n : Nat} (hn : n < t.length) (b : Int) (hb : 0 ≤ b) : ∀ c ∈ ((aftB b t n).reverse.dropWhile (fun c => ['$'].contains c)).reverse, SG.contains c = true := by
  intro c hc
  rw [List.mem_reverse] at hc
  unfold aftB at hc
  rw [range_rev] at hc
  refine drop_letters '$' b.toNat (fun i => sgnB t ((n : Int) + 1 + ((b.toNat - 1 - i : Nat) : Int))) (n + b.toNat + 1 - t.length) (fun i hi => ⟨fun h => ?_, fun h => sgn_in ht (by omega) (by omega)⟩) c hc
  unfold sgnB
  rw [if_neg (by omega)]
  have : t.length ≤ ((n : Int) + 1 + ((b.toNat - 1 - i : Nat) : Int)).toNat := by omega
  simp [this]
theorem sp_is_anchor {r : Rule} (hr : r.Ok) {t : List Char} (ht : isTB t = true) {n : Nat} (hn : n < t.length) (m : Mem) : F_is_anchor_of [.d r.d, .d (anchorD r t n)] m = .ok (.d (.bl true)) m := by
  obtain ⟨a1, a2⟩ := hr.a
  obtain ⟨b1, b2⟩ := hr.b
  have tl := tb_len ht
  have hs : F_is_sign [.d (.str [t[n]])] m = .ok (.d (.bl true)) m := by
    have := tb_sg ht _ (List.getElem_mem hn)
    simp only [F_is_sign, s_is_sign, mkFn]
    simp [dIsiP, tyP, -List.contains_eq_mem, this]
  have hf : F_is_from [.d (.int n), .d (.int 0), .d (.int 23)] m = .ok (.d (.bl true)) m := by
    rw [sp_is_from]
    have h1 : (0 : Int) ≤ n := by omega
    have h2 : (n : Int) ≤ 23 := by omega
    simp [h1, h2]
  have l1 := bef_len r.a t n
  have l2 := aft_len r.b t n
  have q1 := bef_letters ht hn r.a a1
  have q2 := aft_letters ht hn r.b b1
  have e1' : ((befB r.a t n).length : Int) = r.a := by omega
  have e2' : ((aftB r.b t n).length : Int) = r.b := by omega
  have w1 : (befB r.a t n).length ≤ 16777216 := by omega
  have w2 : (aftB r.b t n).length ≤ 16777216 := by omega
  simp only [F_is_anchor_of, s_is_anchor_of, mkFn]
  have d1 : dLstrip (.str (befB r.a t n)) (.str ['^']) = some (.str ((befB r.a t n).dropWhile fun c => ['^'].contains c)) := if_pos w1
  have d2 : dRstrip (.str (aftB r.b t n)) (.str ['$']) = some (.str ((aftB r.b t n).reverse.dropWhile fun c => ['$'].contains c).reverse) := if_pos w2
  have k1 : ((befB r.a t n).dropWhile fun c => ['^'].contains c).length ≤ (befB r.a t n).length := (List.dropWhile_suffix _).length_le
  have k2 : ((aftB r.b t n).reverse.dropWhile fun c => ['$'].contains c).reverse.length ≤ (aftB r.b t n).length := by
    rw [List.length_reverse]
    have := (List.dropWhile_suffix (l := (aftB r.b t n).reverse) (fun c => ['$'].contains c)).length_le
    rw [List.length_reverse] at this
    exact this
  generalize (befB r.a t n).dropWhile (fun c => ['^'].contains c) = u1 at d1 q1 k1
  generalize ((aftB r.b t n).reverse.dropWhile fun c => ['$'].contains c).reverse = u2 at d2 q2 k2
  have hu : u1.length + u2.length ≤ 16777216 := by omega
  have ii : dIsiP "tuple" (anchorD r t n) = some (.bl true) := by simp [anchorD, dIsiP, tyP]
  have i1 : ∀ s : List Char, dIsiP "str" (.str s) = some (.bl true) := fun s => by simp [dIsiP, tyP]
  simp [ii]
  have hn' : t.getD n ' ' = t[n] := by simp [hn]
  simp [anchorD, hn, hf, hs, i1, Rule.d, w1, w2, e1', e2', d1, d2, hu]
  rw [← List.map_append, lcL_all (g := fun c => D.bl (SG.contains c)) _ (fun c _ => ⟨_, rfl, by simp⟩)]
  have ha : (u1 ++ u2).all (fun c => SG.contains c) = true := by
    rw [List.all_eq_true]
    intro c hc
    rcases List.mem_append.mp hc with hc | hc
    · exact q1 c hc
    · exact q2 c hc
  generalize u1 ++ u2 = u at ha
  simp [ha]
  simpa using ha
theorem sp_need_anchor {r : Rule} (hr : r.Ok) {t : List Char} (ht : isTB t = true) {n : Nat} (hn : n < t.length) (m : Mem) : F_need_anchor [.d r.d, .d (anchorD r t n)] m = .ok (.d .non) m := by
  simp only [F_need_anchor, s_need_anchor, mkFn]
  simp [sp_is_anchor hr ht hn]
theorem sp_anchor {r : Rule} (hr : r.Ok) {t : List Char} (ht : isTB t = true) {n : Nat} (hn : n < t.length) (m : Mem) : F_anchor [.d r.d, .d (.str t), .d (.int n)] m = .ok (.d (anchorD r t n)) m := by
  have tl := tb_len ht
  simp only [F_anchor, s_anchor, mkFn]
  simp [sp_need_rule hr, sp_need_text ht, sp_need_line (t := t) (i := n) (by omega) (by omega), sp_anchor_of hr (t := t) (by omega) hn]
theorem sp_scores {r : Rule} (hr : r.Ok) {t t2 : List Char} (ht : isTB t = true) (ht2 : isTB t2 = true) {n : Nat} (hn : n < t.length) (m : Mem) :
    F_scores [.d r.d, .d (anchorD r t n), .d (.str t2)] m = .ok (.d (.lst (((List.range t2.length).map (scoreB r t n t2)).map .int))) m := by
  have tl := tb_len ht2
  simp only [F_scores, s_scores, mkFn]
  have := sp_scores_at hr (t := t) (t2 := t2) (by omega) (n := n) m
  simp only [sp_need_rule hr, sp_need_anchor hr ht hn, sp_need_text ht2, this, ev_seq, ev_expr, ev_eCall, ev_ret, eArgs, ev_eV, Res.bind_ok, Res.run_ok, at_nx, List.getElem?_cons_zero, List.getElem?_cons_succ, List.map_cons, List.map_nil, List.cons_append, List.nil_append, List.append_nil]
  simp [sp_need_rule hr, sp_need_anchor hr ht hn, sp_need_text ht2, this]
theorem sp_found {r : Rule} (hr : r.Ok) {t t2 : List Char} (ht : isTB t = true) (ht2 : isTB t2 = true) {n : Nat} (hn : n < t.length) (m : Mem) :
    F_found [.d r.d, .d (anchorD r t n), .d (.str t2)] m = .ok (.d (.int (foundB r t n t2))) m := by
  have tl := tb_len ht2
  simp only [F_found, s_found, mkFn]
  have := sp_found_at hr (t := t) (t2 := t2) (by omega) (n := n) m
  simp [sp_need_rule hr, sp_need_anchor hr ht hn, sp_need_text ht2, this]
end DI
namespace DI
theorem zip_eq_swap : ∀ (a b : List Char), ((a.zip b).filter fun q => q.1 == q.2).length = ((b.zip a).filter fun q => q.1 == q.2).length
  | [], b => by cases b <;> rfl
  | x :: a, [] => rfl
  | x :: a, y :: b => by
    have ih := zip_eq_swap a b
    simp only [List.zip_cons_cons, List.filter_cons]
    rw [beqC y x]
    cases x == y <;> simp [ih]
abbrev scS : SS := sSeq (sPar [5, 6] [e2 dIx (eCall F__law_anchor [eV 0, eV 2, eV 4]) (eC (.int 1)), e2 dIx (eCall F__law_anchor [eV 0, eV 2, eV 4]) (eC (.int 3))]) (sSeq (sAsg (tN 7) (eFz (nLc [8, 9] (iZip (e2 dAdd (eV 5) (eV 6)) (e2 dAdd (e2 dIx (eV 1) (eC (.int 1))) (e2 dIx (eV 1) (eC (.int 3))))) (tT [8, 9]) (e2 dEq (eV 8) (eV 9)) (eC (.int 1))))) (sApp (eV 3) (e2 dAdd (e1 dLen (eV 7)) (e2 dIx (eFz (nLst [eC (.int 0), e2 dIx (eV 0) (eC (.int 2))])) (e1 dInt (e2 dEq (e2 dIx (eV 2) (eV 4)) (e2 dIx (eV 1) (eC (.int 2)))))))))
def agreeL (r : Rule) (t : List Char) (n : Nat) (t2 : List Char) (p : Nat) : List D := (((befB r.a t2 p ++ aftB r.b t2 p).zip (befB r.a t n ++ aftB r.b t n)).filter fun q => q.1 == q.2).map fun _ => D.int 1
theorem scores_turn {r : Rule} (hr : r.Ok) {t t2 : List Char} (ht : t.length ≤ 100000) (ht2 : t2.length ≤ 100000) {n p : Nat} (hn : n < t.length) (hp : p < t2.length) (m : Mem) (q : List Int) (hq : q.length ≤ 1000000) (b5 b6 b7 : Option PV) :
    scS [some (.d r.d), some (.d (anchorD r t n)), some (.d (.str t2)), some (.obj m.length), some (.d (.int p)), b5, b6, b7, none, none] (m ++ [.l1 (q.map .int)])
      = .nx [some (.d r.d), some (.d (anchorD r t n)), some (.d (.str t2)), some (.obj m.length), some (.d (.int p)), some (.d (.str (befB r.a t2 p))), some (.d (.str (aftB r.b t2 p))), some (.d (.lst (agreeL r t n t2 p))), none, none] (m ++ [.l1 ((q ++ [scoreB r t n t2 p]).map .int)]) := by
  obtain ⟨a1, a2⟩ := hr.a
  obtain ⟨b1, b2⟩ := hr.b
  have hl2 : t2.length ≤ 16777216 := by omega
  have q1 : q.length < 16777216 := by omega
  have la : F__law_anchor [.d r.d, .d (.str t2), .d (.int p)] (m ++ [.l1 (q.map .int)]) = .ok (.d (anchorD r t2 p)) (m ++ [.l1 (q.map .int)]) := sp_lanchor hr ht2 hp _
  have l1 : (befB r.a t2 p).length + (aftB r.b t2 p).length ≤ 16777216 := by rw [bef_len, aft_len]; omega
  have l2 : (befB r.a t n).length + (aftB r.b t n).length ≤ 16777216 := by rw [bef_len, aft_len]; omega
  have l3 : min ((befB r.a t2 p).length + (aftB r.b t2 p).length) ((befB r.a t n).length + (aftB r.b t n).length) ≤ 16777216 := by omega
  have hagl : (((befB r.a t2 p ++ aftB r.b t2 p).zip (befB r.a t n ++ aftB r.b t n)).filter fun q => q.1 == q.2).length ≤ 16777216 := by
    refine Nat.le_trans (List.length_filter_le _ _) ?_
    rw [List.length_zip, List.length_append, List.length_append]
    exact l3
  have hlc : lcL (tT [8, 9]) (e2 dEq (eV 8) (eV 9)) (eC (.int 1)) (((List.map (fun c => D.str [c]) (befB r.a t2 p) ++ List.map (fun c => D.str [c]) (aftB r.b t2 p)).zip (List.map (fun c => D.str [c]) (befB r.a t n) ++ List.map (fun c => D.str [c]) (aftB r.b t n))).map fun p => D.tup [p.1, p.2])
      [some (.d r.d), some (.d (anchorD r t n)), some (.d (.str t2)), some (.obj m.length), some (.d (.int p)), some (.d (.str (befB r.a t2 p))), some (.d (.str (aftB r.b t2 p))), b7, none, none] (m ++ [.l1 (q.map .int)]) [] = .ok (agreeL r t n t2 p) (m ++ [.l1 (q.map .int)]) := by
    rw [← List.map_append, ← List.map_append, List.zip_map, List.map_map]
    have ez : (fun p : D × D => D.tup [p.1, p.2]) ∘ Prod.map (fun c => D.str [c]) (fun c => D.str [c]) = fun p : Char × Char => D.tup [.str [p.1], .str [p.2]] := rfl
    rw [ez, lcL_map (p := fun p : Char × Char => p.1 == p.2) (g := fun _ => .int 1) _ _ (fun p hm => ⟨_, rfl, by simp [one_eq], fun _ => rfl⟩)]
    rfl
  have hal : (agreeL r t n t2 p).length = (((befB r.a t n ++ aftB r.b t n).zip (befB r.a t2 p ++ aftB r.b t2 p)).filter fun q => q.1 == q.2).length := by
    unfold agreeL
    rw [List.length_map, zip_eq_swap]
  have hal2 : (agreeL r t n t2 p).length ≤ 16777216 := by unfold agreeL; rw [List.length_map]; exact hagl
  have hx : ∀ (b : Bool), atD [D.int 0, .int r.c] (if b = true then 1 else 0) = some (.int (if b = true then r.c else 0)) := by intro b; cases b <;> rfl
  have hsc : scoreB r t n t2 p = ((agreeL r t n t2 p).length : Int) + if t2.getD p ' ' == t.getD n ' ' then r.c else 0 := by
    unfold scoreB
    rw [hal]
  rw [hsc]
  generalize hag : agreeL r t n t2 p = ag at *
  have hc2 : dIx r.d (.int 2) = some (.int r.c) := rfl
  have e1' : t2.getD p ' ' = t2[p] := by simp [hp]
  have e2' : t.getD n ' ' = t[n] := by simp [hn]
  simp only [anchorD] at *
  rw [e1'] at la
  rw [e2'] at hlc
  rw [e1', e2']
  simp [la, l1, l2, l3, lcG_ok, hlc]
  simp [hl2, atD_nat, hp, hn, hc2, hal2, one_eq, q1]
  by_cases hc : t2[p] = t[n]
  · simp [hc, atD, q1]
  · simp [hc, atD, q1]
theorem sp_lscores {r : Rule} (hr : r.Ok) {t t2 : List Char} (ht : t.length ≤ 100000) (ht2 : t2.length ≤ 100000) {n : Nat} (hn : n < t.length) (m : Mem) :
    F__law_scores [.d r.d, .d (anchorD r t n), .d (.str t2)] m = .ok (.d (.lst (((List.range t2.length).map (scoreB r t n t2)).map .int))) m := by
  have hl2 : t2.length ≤ 16777216 := by omega
  simp only [F__law_scores, s__law_scores, mkFn]
  have r1 : r1K (.d (.int (t2.length : Int))) (m ++ [.l1 []]) = .ok (rng 0 t2.length) (m ++ [.l1 []]) := by rw [r1K_int (fits62_nat (by omega)), Int.toNat_natCast]
  obtain ⟨v', e1', e2'⟩ := for_fold (tg := tN 4) (b := scS) (k := fun (p : Nat) => D.int (0 + (p : Int)))
    (fun (q : List Int × (Option PV × Option PV × Option PV)) v => [some (.d r.d), some (.d (anchorD r t n)), some (.d (.str t2)), some (.obj m.length), v, q.2.1, q.2.2.1, q.2.2.2, none, none]) (fun q => m ++ [.l1 (q.1.map .int)])
    (fun q p => (q.1 ++ [scoreB r t n t2 p], some (.d (.str (befB r.a t2 p))), some (.d (.str (aftB r.b t2 p))), some (.d (.lst (agreeL r t n t2 p)))))
    (fun rest q => (∀ p ∈ rest, p < t2.length) ∧ q.1.length + rest.length ≤ 200000)
    (fun p rest q v ⟨i1, i2⟩ => by
      have hp := i1 p (by simp)
      have i2 : q.1.length + (rest.length + 1) ≤ 200000 := i2
      refine ⟨[some (.d r.d), some (.d (anchorD r t n)), some (.d (.str t2)), some (.obj m.length), some (.d (.int p)), q.2.1, q.2.2.1, q.2.2.2, none, none], some (.d (.int p)), ?_, scores_turn hr ht ht2 hn hp m q.1 (by omega) _ _ _, fun x hx => i1 x (by simp [hx]), ?_⟩
      · rw [Int.zero_add]
        rfl
      · simp only [List.length_append, List.length_singleton]
        omega)
    (List.range t2.length) ([], none, none, none) none ⟨fun p hp => by simpa using hp, by simp; omega⟩
  have hf : ∀ (l : List Nat) (q : List Int × (Option PV × Option PV × Option PV)), (l.foldl (fun (q : List Int × (Option PV × Option PV × Option PV)) p => (q.1 ++ [scoreB r t n t2 p], some (PV.d (.str (befB r.a t2 p))), some (PV.d (.str (aftB r.b t2 p))), some (PV.d (.lst (agreeL r t n t2 p))))) q).1 = q.1 ++ l.map (scoreB r t n t2) := by
    intro l
    induction l with
    | nil => intro q; simp
    | cons p l ih => intro q; rw [List.foldl_cons, ih]; simp
  have hfl := hf (List.range t2.length) ([], none, none, none)
  rw [List.nil_append] at hfl
  have e1'' : forL (tN 4) scS (rng 0 t2.length) [some (.d r.d), some (.d (anchorD r t n)), some (.d (.str t2)), some (.obj m.length), none, none, none, none, none, none] (m ++ [.l1 []]) = _ := e1'
  generalize ((List.range t2.length).foldl (fun (q : List Int × (Option PV × Option PV × Option PV)) p => (q.1 ++ [scoreB r t n t2 p], some (PV.d (.str (befB r.a t2 p))), some (PV.d (.str (aftB r.b t2 p))), some (PV.d (.lst (agreeL r t n t2 p))))) ([], none, none, none)) = fin at e1'' hfl
  simp [hl2, r1, e1'']
  rw [hfl]
  simp
end DI
namespace DI
abbrev ruleS : SS := sIf (eNot (eCall F__law_bool [eCall F_is_rule [eV 4], eCall F__law_is_rule [eV 4]])) (sRet (eC (.bl false))) (sNil)
abbrev oneS : SS := sSeq (sIf (eNot (eCall F__law_same [eCall F_scores [eV 3, eV 7, eV 9], eCall F__law_scores [eV 3, eV 7, eV 9]])) (sRet (eC (.bl false))) (sNil)) (sIf (eNot (eCall F__law_same [eCall F_found [eV 3, eV 7, eV 9], eCall F__law_found [eV 3, eV 5, eV 6, eV 9]])) (sRet (eC (.bl false))) (sNil))
abbrev cellS : SS := sSeq (sAsg (tN 2) (eCall F__law_deck [eV 1, eC (.int 13)])) (sSeq (sAsg (tN 3) (eCall F__law_rule [eV 2])) (sSeq (sFor (tN 4) (iV (e2 dAdd (eFz (nLst [eV 3])) (eCall F__law_no_rules [eV 2]))) ruleS) (sSeq (sAsg (tN 5) (e2 dAdd (eC (.str ['a', 'b'])) (eCall F__law_text [eV 2, eC (.int 7)]))) (sSeq (sAsg (tN 6) (eCall F__law_pick [eV 2, e1 dLen (eV 5)])) (sSeq (sAsg (tN 7) (eCall F__law_anchor [eV 3, eV 5, eV 6])) (sSeq (sAsg (tN 8) (eFz (nLst [e2 dIx (eCall F__law_walked [eV 5, eCall F__law_row [eV 2, eV 5, eC (.str ['a', 'b', 'x']), eC (.int 4)]]) (eC (.int 0)), eCall F__law_text [eV 2, eC (.int 8)], eV 5]))) (sSeq (sIf (eNot (eCall F__law_same [eCall F_anchor [eV 3, eV 5, eV 6], eV 7])) (sRet (eC (.bl false))) (sNil)) (sFor (tN 9) (iV (eV 8)) oneS))))))))
abbrev odd1S (T0 : Nat) : SS := sSeq (sIf (e2 dNe (eTry T0 "law.<locals>.<lambda>" nmOf (eCall F_scores [eV 10, eV 11, eC .non])) (eC (.str k_Anchor_))) (sRet (eC (.bl false))) (sNil)) (sIf (e2 dNe (eTry T0 "law.<locals>.<lambda>" nmOf (eCall F_found [eV 10, eV 11, eC .non])) (eC (.str k_Anchor_))) (sRet (eC (.bl false))) (sNil))
abbrev odd2S (T0 : Nat) : SS := sIf (e2 dNe (eTry T0 "law.<locals>.<lambda>" nmOf (eCall F_found [eV 10, eV 11, eC .non])) (eC (.str k_Anchor_))) (sRet (eC (.bl false))) (sNil)
abbrev lastS (T0 : Nat) : SS := sSeq (sAsg (tN 10) (eTup [eC (.int 1), eC (.int 1), eC (.int 2), eC (.int 2), eC (.str k_first)])) (sSeq (sFor (tN 11) (iV (eTup [eC .non, eTup [eC (.int 0), eC (.str ['a']), eC (.str ['b'])], eTup [eC (.int 24), eC (.str ['a']), eC (.str ['b']), eC (.str ['c'])], eTup [eC (.int 0), eC (.str ['$']), eC (.str ['b']), eC (.str ['c'])], eTup [eC (.int 0), eC (.str ['a']), eC (.str ['^']), eC (.str ['c'])], eTup [eC (.int 0), eC (.str []), eC (.str ['b']), eC (.str ['c'])]])) (odd1S T0)) (sSeq (sFor (tN 11) (iV (eTup [eFz (nLst [eC (.int 0), eC (.str ['a']), eC (.str ['b']), eC (.str ['c'])]), eTup [eC (.int 0), eC (.str ['a']), eC (.str ['b', 'b']), eC (.str ['c'])], eTup [eC (.int 0), eC (.str ['a']), eC (.str ['b']), eC (.str ['^'])], eTup [eC (.int 0), eC (.str ['a']), eC (.str ['b']), eC (.str ['A'])], eTup [eC (.bl true), eC (.str ['a']), eC (.str ['b']), eC (.str ['c'])]])) (odd2S T0)) (sSeq (sIf (e2 dNe (eTry T0 "law.<locals>.<lambda>" nmOf (eCall F_found [eTup [eC (.int 2), eC (.int 0), eC (.int 0), eC (.int 1), eC (.str ['l', 'a', 's', 't'])], eTup [eC (.int 0), eC (.str ['a', '^']), eC (.str ['b']), eC (.str [])], eC (.str ['a', 'b'])])) (eC (.str k_Anchor_))) (sRet (eC (.bl false))) (sNil)) (sRet (eAnd (e2 dEq (eCall F_scores [eV 10, eTup [eC (.int 1), eC (.str ['a']), eC (.str ['b']), eC (.str ['c'])], eC (.str ['b', 'a', 'b'])]) (eFz (nLst [eC (.int 2), eC (.int 0), eC (.int 3)]))) (e2 dEq (eCall F_found [eV 10, eTup [eC (.int 1), eC (.str ['a']), eC (.str ['b']), eC (.str ['c'])], eC (.str [])]) (e1 dNeg (eC (.int 1)))))))))
abbrev QN : String := "law.<locals>.<lambda>"
theorem sp_law_bool (a b : Bool) (m : Mem) : F__law_bool [.d (.bl a), .d (.bl b)] m = .ok (.d (.bl (a == b))) m := by
  simp only [F__law_bool, s__law_bool, mkFn]
  simp [dIsiP, tyP]
theorem ne_str_self {a b : List Char} (h : a = b) : dNe (.str a) (.str b) = some (.bl false) := by
  subst h
  simp
@[simp] theorem fnR_ex {n : Nat} {e : Exc} {m : Mem} : fnR n (.ex e m) = .ex e (m.take n) := rfl
/-- a call that is refused -/
theorem try_ex {T : Nat} {q : String} {b : SE} {ρ : Env} {m m1 : Mem} {c : String} {s : List Char} (h0 : m[0]? = some (.tab T q)) (hb : b ρ m = .ex ⟨c, none⟩ m1) (hn : nmOf c = some s) : eTry T q nmOf b ρ m = .ok (.d (.str s)) m1 := by
  unfold eTry
  rw [h0]
  dsimp only
  rw [if_pos ⟨rfl, rfl⟩, hb]
  dsimp only
  rw [hn]
/-! rules and others -/
def goodV (v : D) : Prop := noR v = true ∨ ∃ a b c l t, v = .tup [a, b, c, l, t] ∧ a.one = true ∧ b.one = true ∧ c.one = true ∧ l.one = true ∧ t.one = true
theorem rule_ok {v : D} (h : goodV v) (m : Mem) (a0 a1 a2 a3 a5 a6 a7 a8 a9 a10 a11 : Option PV) : ruleS [a0, a1, a2, a3, some (.d v), a5, a6, a7, a8, a9, a10, a11] m = .nx [a0, a1, a2, a3, some (.d v), a5, a6, a7, a8, a9, a10, a11] m := by
  have key : ∃ b, F_is_rule_of [.d v] m = .ok (.d (.bl b)) m ∧ F__law_is_rule [.d v] m = .ok (.d (.bl b)) m := by
    rcases h with h | ⟨a, b, c, l, t, rfl, h1, h2, h3, h4, h5⟩
    · exact ⟨false, sp_norule h m⟩
    · exact ⟨_, sp_rule5 h1 h2 h3 h4 h5 m, sp_lrule5 h1 h2 h3 h4 h5 m⟩
  obtain ⟨b, k1, k2⟩ := key
  have k3 : F_is_rule [.d v] m = .ok (.d (.bl b)) m := by
    simp only [F_is_rule, s_is_rule, mkFn]
    simp [k1]
  simp [k2, k3, sp_law_bool]
theorem slot_loop (i : Nat) {s : SS} {P : D → Prop} (m : Mem) (E : Option PV → Env) (hE : ∀ x b, tN i (.d x) (E b) = some (E (some (.d x)))) (hs : ∀ x, P x → s (E (some (.d x))) m = .nx (E (some (.d x))) m) : ∀ (xs : List D) (b : Option PV), (∀ x ∈ xs, P x) →
    ∃ c, forL (tN i) s xs (E b) m = .nx (E c) m
  | [], b, _ => ⟨b, rfl⟩
  | x :: xs, b, h => by
    obtain ⟨c, e⟩ := slot_loop i m E hE hs xs (some (.d x)) fun y hy => h y (by simp [hy])
    exact ⟨c, by rw [for_nx (hE x b) (hs x (h x (by simp))), e]⟩
/-! the text behind is a text -/
theorem behind_chars {t : List Char} (ht : isTB t = true) : ∀ (row : List (List Char)) (q : List Char × Nat), (∀ s ∈ row, isStepB s = true) → q.2 + (takenB row).length ≤ t.length → (∀ c ∈ q.1, SG.contains c = true) → ∀ c ∈ (row.foldl (sbSt t) q).1, SG.contains c = true
  | [], q, _, _, h, c, hc => h c hc
  | s :: row, q, hs, hl, h, c, hc => by
    rw [List.foldl_cons] at hc
    have h0 := hs s (by simp)
    refine behind_chars ht row (sbSt t q s) (fun x hx => hs x (by simp [hx])) ?_ ?_ c hc
    · rcases step_cases h0 with rfl | rfl | ⟨d, rfl, _⟩ | ⟨d, rfl, _⟩ <;> simp [takenB, hd, sbSt] at hl ⊢ <;> omega
    · intro d hd'
      rcases step_cases h0 with rfl | rfl | ⟨e, rfl, he⟩ | ⟨e, rfl, he⟩
      · have hq : q.2 < t.length := by
          simp [takenB, hd] at hl
          omega
        simp only [sbSt, if_true] at hd'
        rcases List.mem_append.mp hd' with z | z
        · exact h d z
        · rw [List.mem_singleton.mp z]
          have : t.getD q.2 ' ' = t[q.2] := by simp [hq]
          rw [this]
          exact tb_sg ht _ (List.getElem_mem hq)
      · simp [sbSt] at hd'
        exact h d hd'
      · simp [sbSt] at hd'
        rcases hd' with z | z
        · exact h d z
        · rw [z]; exact he
      · simp [sbSt] at hd'
        rcases hd' with z | z
        · exact h d z
        · rw [z]; exact he
theorem behind_ok {t : List Char} {row : List (List Char)} (h : RowOk t row) (hl : row.length ≤ 24) : isTB (behindB t row) = true := by
  unfold isTB
  rw [Bool.and_eq_true]
  refine ⟨decide_eq_true (Nat.le_trans (behind_len t row) hl), List.all_eq_true.mpr fun c hc => behind_chars h.tx row ([], 0) h.st ?_ (by simp) c hc⟩
  simp [(row_parts h.rw).2]
/-! one later text -/
theorem one_ok {r : Rule} (hr : r.Ok) {t : List Char} (ht : isTB t = true) {n : Nat} (hn : n < t.length) {x : D} (hx : ∃ t2, x = .str t2 ∧ isTB t2 = true) (m : Mem) (a0 a1 a2 a4 a8 a10 a11 : Option PV) :
    oneS [a0, a1, a2, some (.d r.d), a4, some (.d (.str t)), some (.d (.int n)), some (.d (anchorD r t n)), a8, some (.d x), a10, a11] m = .nx [a0, a1, a2, some (.d r.d), a4, some (.d (.str t)), some (.d (.int n)), some (.d (anchorD r t n)), a8, some (.d x), a10, a11] m := by
  obtain ⟨t2, rfl, ht2⟩ := hx
  have tl := tb_len ht
  have tl2 := tb_len ht2
  have s1 := sp_scores hr ht ht2 hn m
  have s2 := sp_lscores hr (t := t) (t2 := t2) (by omega) (by omega) hn m
  have s3 := sp_found hr ht ht2 hn m
  have s4 := sp_law_found' hr (t := t) (t2 := t2) (by omega) (by omega) hn m
  have s5 := same_ints (xs := (List.range t2.length).map (scoreB r t n t2)) (by simp; omega) m
  have s6 := same_int (foundB r t n t2) m
  generalize ((List.range t2.length).map (scoreB r t n t2)).map D.int = sc at s1 s2 s5
  simp [s1, s2, s3, s4, s5, s6]
theorem same_anchor (r : Rule) (t : List Char) (n : Nat) (m : Mem) : F__law_same [.d (anchorD r t n), .d (anchorD r t n)] m = .ok (.d (.bl true)) m :=
  same_seq 3 (.inr rfl) (by simp) m fun y hy => by
    simp only [List.mem_cons, List.not_mem_nil, or_false] at hy
    rcases hy with rfl | rfl | rfl | rfl <;> exact same_one 2 rfl m
theorem k_abc_SG : ∀ c ∈ k_abcdefgh, SG.contains c = true := by decide
theorem text_tb {t : List Char} {k : Nat} (h1 : t.length ≤ k) (hk : k ≤ 24) (h2 : ∀ c ∈ t, c ∈ k_abcdefgh) : isTB t = true := by
  unfold isTB
  rw [Bool.and_eq_true]
  exact ⟨decide_eq_true (by omega), List.all_eq_true.mpr fun c hc => k_abc_SG c (h2 c hc)⟩
theorem rule_good {r : Rule} : goodV r.d := .inr ⟨_, _, _, _, _, rfl, rfl, rfl, rfl, rfl, rfl⟩
theorem cell_ok (cell : Int) (m : Mem) (hm0 : 0 < m.length) (a0 a2 a3 a4 a5 a6 a7 a8 a9 a10 a11 : Option PV) :
    ∃ b2 b3 b4 b5 b6 b7 b8 b9 m', cellS [a0, some (.d (.int cell)), a2, a3, a4, a5, a6, a7, a8, a9, a10, a11] m = .nx [a0, some (.d (.int cell)), b2, b3, b4, b5, b6, b7, b8, b9, a10, a11] m' ∧ m'[0]? = m[0]? ∧ 0 < m'.length := by
  have n0 : 0 ≠ m.length := by omega
  obtain ⟨m1, u1, d1, l1, x1⟩ := sp_deck cell 13 (by decide) m
  obtain ⟨r, m2, u2, hr, d2, l2, x2⟩ := sp_rule d1 (by decide)
  obtain ⟨v0, v1, v2, v3, v4, y4, y6, ys, m3, u3, ⟨o0, o1, o2, o3, o4⟩, hy4, hy6, d3, l3, x3⟩ := sp_no_rules d2 (by decide)
  obtain ⟨t0, m4, u4, ht1, ht2, d4, l4, x4⟩ := sp_text (most := 7) d3 (by decide) (by decide) (by decide)
  obtain ⟨t, et⟩ : ∃ t, t = 'a' :: 'b' :: t0 := ⟨_, rfl⟩
  have htl : t.length ≤ 9 := by rw [et]; simp only [List.length_cons]; omega
  have htp : 2 ≤ t.length := by rw [et]; simp only [List.length_cons]; omega
  have hT : isTB t = true := text_tb (k := 9) htl (by decide) (by
    rw [et]
    intro c hc
    rcases List.mem_cons.mp hc with rfl | hc
    · decide
    · rcases List.mem_cons.mp hc with rfl | hc
      · decide
      · exact ht2 c hc)
  obtain ⟨g, m5, u5, g1, g2, d5, l5, x5⟩ := sp_pick (lim := t.length) d4 (by decide) (by omega) (by omega)
  obtain ⟨n, rfl⟩ : ∃ n : Nat, g = n := ⟨g.toNat, by omega⟩
  have hn : n < t.length := by omega
  obtain ⟨row, m6, u6, hrow, hrl, _, d6, l6, x6⟩ := sp_row (most := 4) (sg := ['a', 'b', 'x']) d5 (by decide) hT (by decide) (by decide) (by decide) (by decide) (by omega)
  obtain ⟨t2, m7, u7, ht3, ht4, d7, l7, x7⟩ := sp_text (most := 8) d6 (by omega) (by decide) (by decide)
  have hT2 : isTB t2 = true := text_tb (k := 8) (by omega) (by decide) ht4
  have hT3 := behind_ok hrow (by omega)
  have hw := sp_walked hrow.tl hrow.ln hrow.st (row_parts hrow.rw).2 m6
  have hla := sp_lanchor hr (t := t) (by omega) hn m5
  have hpa := sp_anchor hr hT hn m7
  have hsa := same_anchor r t n m7
  have hl : t.length ≤ 16777216 := by omega
  have ha : dAdd (.str ['a', 'b']) (.str t0) = some (.str t) := by
    rw [et]
    exact add_str (by simp only [List.length_cons, List.length_nil]; omega)
  obtain ⟨c4, w1⟩ := slot_loop 4 (s := ruleS) (P := goodV) m3 (fun b => [a0, some (.d (.int cell)), some (.obj m.length), some (.d r.d), b, a5, a6, a7, a8, a9, a10, a11]) (fun _ _ => rfl) (fun x hx => rule_ok hx m3 ..)
    [r.d, .tup [v0, v1, v2, v3, v4], .tup y4, .tup y6, .lst ys, .non] a4 (by
      intro x hx
      simp only [List.mem_cons, List.not_mem_nil, or_false] at hx
      rcases hx with rfl | rfl | rfl | rfl | rfl | rfl
      · exact rule_good
      · exact .inr ⟨_, _, _, _, _, rfl, o0, o1, o2, o3, o4⟩
      · exact .inl (by simp [noR, hy4])
      · exact .inl (by simp [noR, hy6])
      · exact .inl rfl
      · exact .inl rfl)
  obtain ⟨c9, w2⟩ := slot_loop 9 (s := oneS) (P := fun x => ∃ t2, x = D.str t2 ∧ isTB t2 = true) m7 (fun b => [a0, some (.d (.int cell)), some (.obj m.length), some (.d r.d), c4, some (.d (.str t)), some (.d (.int n)), some (.d (anchorD r t n)), some (.d (.lst [.str (behindB t row), .str t2, .str t])), b, a10, a11]) (fun _ _ => rfl)
    (fun x hx => one_ok hr hT hn hx m7 ..) [.str (behindB t row), .str t2, .str t] a9 (by
      intro x hx
      simp only [List.mem_cons, List.not_mem_nil, or_false] at hx
      rcases hx with rfl | rfl | rfl
      · exact ⟨_, rfl, hT3⟩
      · exact ⟨_, rfl, hT2⟩
      · exact ⟨_, rfl, hT⟩)
  refine ⟨some (.obj m.length), some (.d r.d), c4, some (.d (.str t)), some (.d (.int n)), some (.d (anchorD r t n)), some (.d (.lst [.str (behindB t row), .str t2, .str t])), c9, m7, ?_, ?_, by omega⟩
  · rw [cellS]
    simp [u1, u2, u3, w1, u4, ha, hl, u5, hla, u6, hw, u7, hpa, hsa, w2, -List.map_cons, add_lst]
  · rw [x7 0 n0, x6 0 n0, x5 0 n0, x4 0 n0, x3 0 n0, x2 0 n0, x1 0 hm0]
end DI
namespace DI
def r0 : Rule := ⟨1, 1, 2, 2, k_first⟩
theorem r0_ok : r0.Ok := ⟨by decide, by decide, by decide, by decide, .inl rfl⟩
def r1 : Rule := ⟨2, 0, 0, 1, ['l', 'a', 's', 't']⟩
theorem r1_ok : r1.Ok := ⟨by decide, by decide, by decide, by decide, .inr rfl⟩
def noAnchor (r : Rule) (x : D) : Prop := ∀ m, F_is_anchor_of [.d r.d, .d x] m = .ok (.d (.bl false)) m
theorem sp_sign1 (c : Char) (m : Mem) : F_is_sign [.d (.str [c])] m = .ok (.d (.bl (SG.contains c))) m := by
  simp only [F_is_sign, s_is_sign, mkFn]
  simp [dIsiP, tyP]
theorem sp_sign2 (a b : Char) (m : Mem) : F_is_sign [.d (.str [a, b])] m = .ok (.d (.bl false)) m := by
  simp only [F_is_sign, s_is_sign, mkFn]
  simp [dIsiP, tyP]
theorem o_lst (s t : List Char) : dLstrip (.str s) (.str t) = if s.length ≤ 16777216 then some (.str (s.dropWhile fun c => t.contains c)) else none := rfl
theorem o_rst (s t : List Char) : dRstrip (.str s) (.str t) = if s.length ≤ 16777216 then some (.str (s.reverse.dropWhile fun c => t.contains c).reverse) else none := rfl
theorem sp_fromB (b : Bool) (lo hi : Int) (m : Mem) : F_is_from [.d (.bl b), .d (.int lo), .d (.int hi)] m = .ok (.d (.bl false)) m := sp_from rfl lo hi m
theorem c_a : 'a' ∈ SG := by decide
theorem c_b : 'b' ∈ SG := by decide
theorem c_c : 'c' ∈ SG := by decide
theorem c_h : '^' ∉ SG := by decide
theorem c_d : '$' ∉ SG := by decide
theorem c_A : 'A' ∉ SG := by decide
theorem a1 : noAnchor r0 .non := by
  intro m
  simp only [F_is_anchor_of, s_is_anchor_of, mkFn, r0, r1, Rule.d]
  simp [dIsiP, tyP, sp_is_from, sp_fromB, sp_sign1, sp_sign2, o_lst, o_rst, lcL, dAll, bls, c_a, c_b, c_c, c_h, c_d, c_A]
theorem a2 : noAnchor r0 (.tup [.int 0, .str ['a'], .str ['b']]) := by
  intro m
  simp only [F_is_anchor_of, s_is_anchor_of, mkFn, r0, r1, Rule.d]
  simp [dIsiP, tyP, sp_is_from, sp_fromB, sp_sign1, sp_sign2, o_lst, o_rst, lcL, dAll, bls, c_a, c_b, c_c, c_h, c_d, c_A]
theorem a3 : noAnchor r0 (.tup [.int 24, .str ['a'], .str ['b'], .str ['c']]) := by
  intro m
  simp only [F_is_anchor_of, s_is_anchor_of, mkFn, r0, r1, Rule.d]
  simp [dIsiP, tyP, sp_is_from, sp_fromB, sp_sign1, sp_sign2, o_lst, o_rst, lcL, dAll, bls, c_a, c_b, c_c, c_h, c_d, c_A]
theorem a4 : noAnchor r0 (.tup [.int 0, .str ['$'], .str ['b'], .str ['c']]) := by
  intro m
  simp only [F_is_anchor_of, s_is_anchor_of, mkFn, r0, r1, Rule.d]
  simp [dIsiP, tyP, sp_is_from, sp_fromB, sp_sign1, sp_sign2, o_lst, o_rst, lcL, dAll, bls, c_a, c_b, c_c, c_h, c_d, c_A]
theorem a5 : noAnchor r0 (.tup [.int 0, .str ['a'], .str ['^'], .str ['c']]) := by
  intro m
  simp only [F_is_anchor_of, s_is_anchor_of, mkFn, r0, r1, Rule.d]
  simp [dIsiP, tyP, sp_is_from, sp_fromB, sp_sign1, sp_sign2, o_lst, o_rst, lcL, dAll, bls, c_a, c_b, c_c, c_h, c_d, c_A]
theorem a6 : noAnchor r0 (.tup [.int 0, .str [], .str ['b'], .str ['c']]) := by
  intro m
  simp only [F_is_anchor_of, s_is_anchor_of, mkFn, r0, r1, Rule.d]
  simp [dIsiP, tyP, sp_is_from, sp_fromB, sp_sign1, sp_sign2, o_lst, o_rst, lcL, dAll, bls, c_a, c_b, c_c, c_h, c_d, c_A]
theorem a7 : noAnchor r0 (.lst [.int 0, .str ['a'], .str ['b'], .str ['c']]) := by
  intro m
  simp only [F_is_anchor_of, s_is_anchor_of, mkFn, r0, r1, Rule.d]
  simp [dIsiP, tyP, sp_is_from, sp_fromB, sp_sign1, sp_sign2, o_lst, o_rst, lcL, dAll, bls, c_a, c_b, c_c, c_h, c_d, c_A]
theorem a8 : noAnchor r0 (.tup [.int 0, .str ['a'], .str ['b', 'b'], .str ['c']]) := by
  intro m
  simp only [F_is_anchor_of, s_is_anchor_of, mkFn, r0, r1, Rule.d]
  simp [dIsiP, tyP, sp_is_from, sp_fromB, sp_sign1, sp_sign2, o_lst, o_rst, lcL, dAll, bls, c_a, c_b, c_c, c_h, c_d, c_A]
theorem a9 : noAnchor r0 (.tup [.int 0, .str ['a'], .str ['b'], .str ['^']]) := by
  intro m
  simp only [F_is_anchor_of, s_is_anchor_of, mkFn, r0, r1, Rule.d]
  simp [dIsiP, tyP, sp_is_from, sp_fromB, sp_sign1, sp_sign2, o_lst, o_rst, lcL, dAll, bls, c_a, c_b, c_c, c_h, c_d, c_A]
theorem a10 : noAnchor r0 (.tup [.int 0, .str ['a'], .str ['b'], .str ['A']]) := by
  intro m
  simp only [F_is_anchor_of, s_is_anchor_of, mkFn, r0, r1, Rule.d]
  simp [dIsiP, tyP, sp_is_from, sp_fromB, sp_sign1, sp_sign2, o_lst, o_rst, lcL, dAll, bls, c_a, c_b, c_c, c_h, c_d, c_A]
theorem a11 : noAnchor r0 (.tup [.bl true, .str ['a'], .str ['b'], .str ['c']]) := by
  intro m
  simp only [F_is_anchor_of, s_is_anchor_of, mkFn, r0, r1, Rule.d]
  simp [dIsiP, tyP, sp_is_from, sp_fromB, sp_sign1, sp_sign2, o_lst, o_rst, lcL, dAll, bls, c_a, c_b, c_c, c_h, c_d, c_A]
theorem a12 : noAnchor r1 (.tup [.int 0, .str ['a', '^'], .str ['b'], .str []]) := by
  intro m
  simp only [F_is_anchor_of, s_is_anchor_of, mkFn, r0, r1, Rule.d]
  simp [dIsiP, tyP, sp_is_from, sp_fromB, sp_sign1, sp_sign2, o_lst, o_rst, lcL, dAll, bls, c_a, c_b, c_c, c_h, c_d, c_A]
theorem a13 (m : Mem) : F_is_anchor_of [.d r0.d, .d (.tup [.int 1, .str ['a'], .str ['b'], .str ['c']])] m = .ok (.d (.bl true)) m := by
  simp only [F_is_anchor_of, s_is_anchor_of, mkFn, r0, Rule.d]
  simp [dIsiP, tyP, sp_is_from, sp_fromB, sp_sign1, sp_sign2, o_lst, o_rst, lcL, dAll, bls, c_a, c_b, c_c, c_h, c_d, c_A]
theorem need_off {r : Rule} {x : D} (h : noAnchor r x) (m : Mem) : F_need_anchor [.d r.d, .d x] m = .ex ⟨"InvalidAnchor", none⟩ m := by
  simp only [F_need_anchor, s_need_anchor, mkFn]
  simp [h m, sRaise]
theorem scores_off {r : Rule} (hr : r.Ok) {x : D} (h : noAnchor r x) (y : D) (m : Mem) : F_scores [.d r.d, .d x, .d y] m = .ex ⟨"InvalidAnchor", none⟩ m := by
  simp only [F_scores, s_scores, mkFn]
  simp [sp_need_rule hr, need_off h]
theorem found_off {r : Rule} (hr : r.Ok) {x : D} (h : noAnchor r x) (y : D) (m : Mem) : F_found [.d r.d, .d x, .d y] m = .ex ⟨"InvalidAnchor", none⟩ m := by
  simp only [F_found, s_found, mkFn]
  simp [sp_need_rule hr, need_off h]
theorem nmA : nmOf "InvalidAnchor" = some k_nInvalidAnchor := by simp [nmOf]
theorem ne_anchor : k_nInvalidAnchor = k_Anchor_ := rfl
theorem odd1_ok {T0 : Nat} {x : D} (h : noAnchor r0 x) {m : Mem} (h0 : m[0]? = some (.tab T0 QN)) (a0 a1 a2 a3 a4 a5 a6 a7 a8 a9 : Option PV) :
    odd1S T0 [a0, a1, a2, a3, a4, a5, a6, a7, a8, a9, some (.d r0.d), some (.d x)] m = .nx [a0, a1, a2, a3, a4, a5, a6, a7, a8, a9, some (.d r0.d), some (.d x)] m := by
  have e1' : eCall F_scores [eV 10, eV 11, eC .non] [a0, a1, a2, a3, a4, a5, a6, a7, a8, a9, some (.d r0.d), some (.d x)] m = .ex ⟨"InvalidAnchor", none⟩ m := by
    simp [scores_off r0_ok h]
  have e2' : eCall F_found [eV 10, eV 11, eC .non] [a0, a1, a2, a3, a4, a5, a6, a7, a8, a9, some (.d r0.d), some (.d x)] m = .ex ⟨"InvalidAnchor", none⟩ m := by
    simp [found_off r0_ok h]
  simp [try_ex h0 e1' nmA, try_ex h0 e2' nmA, ne_anchor]
theorem odd2_ok {T0 : Nat} {x : D} (h : noAnchor r0 x) {m : Mem} (h0 : m[0]? = some (.tab T0 QN)) (a0 a1 a2 a3 a4 a5 a6 a7 a8 a9 : Option PV) :
    odd2S T0 [a0, a1, a2, a3, a4, a5, a6, a7, a8, a9, some (.d r0.d), some (.d x)] m = .nx [a0, a1, a2, a3, a4, a5, a6, a7, a8, a9, some (.d r0.d), some (.d x)] m := by
  have e2' : eCall F_found [eV 10, eV 11, eC .non] [a0, a1, a2, a3, a4, a5, a6, a7, a8, a9, some (.d r0.d), some (.d x)] m = .ex ⟨"InvalidAnchor", none⟩ m := by
    simp [found_off r0_ok h]
  simp [try_ex h0 e2' nmA, ne_anchor]
theorem need_on (m : Mem) : F_need_anchor [.d r0.d, .d (.tup [.int 1, .str ['a'], .str ['b'], .str ['c']])] m = .ok (.d .non) m := by
  simp only [F_need_anchor, s_need_anchor, mkFn]
  simp [a13 m]
/-- the written anchor is the one of a written text -/
theorem anc_w : anchorD r0 ['a', 'b', 'c'] 1 = .tup [.int 1, .str ['a'], .str ['b'], .str ['c']] := rfl
theorem last_ok {T0 : Nat} {m : Mem} (h0 : m[0]? = some (.tab T0 QN)) (a0 a1 a2 a3 a4 a5 a6 a7 a8 a9 : Option PV) : lastS T0 [a0, a1, a2, a3, a4, a5, a6, a7, a8, a9, none, none] m = .rt (.d (.bl true)) m := by
  have hT : isTB ['a', 'b', 'c'] = true := by decide
  have hT1 : isTB ['b', 'a', 'b'] = true := by decide
  have hT2 : isTB [] = true := by decide
  have s1 := sp_scores r0_ok hT hT1 (n := 1) (by decide) m
  have s2 := sp_found r0_ok hT hT2 (n := 1) (by decide) m
  rw [anc_w] at s1 s2
  rw [show ((List.range ['b', 'a', 'b'].length).map (scoreB r0 ['a', 'b', 'c'] 1 ['b', 'a', 'b'])) = [2, 0, 3] by decide +kernel] at s1
  rw [show foundB r0 ['a', 'b', 'c'] 1 [] = -1 by decide +kernel] at s2
  obtain ⟨c1, w1⟩ := slot_loop 11 (s := odd1S T0) (P := noAnchor r0) m (fun b => [a0, a1, a2, a3, a4, a5, a6, a7, a8, a9, some (.d r0.d), b]) (fun _ _ => rfl) (fun x hx => odd1_ok hx h0 ..)
    [.non, .tup [.int 0, .str ['a'], .str ['b']], .tup [.int 24, .str ['a'], .str ['b'], .str ['c']], .tup [.int 0, .str ['$'], .str ['b'], .str ['c']], .tup [.int 0, .str ['a'], .str ['^'], .str ['c']], .tup [.int 0, .str [], .str ['b'], .str ['c']]] none (by
      intro x hx
      simp only [List.mem_cons, List.not_mem_nil, or_false] at hx
      rcases hx with rfl | rfl | rfl | rfl | rfl | rfl
      · exact DI.a1
      · exact DI.a2
      · exact DI.a3
      · exact DI.a4
      · exact DI.a5
      · exact DI.a6)
  obtain ⟨c2, w2⟩ := slot_loop 11 (s := odd2S T0) (P := noAnchor r0) m (fun b => [a0, a1, a2, a3, a4, a5, a6, a7, a8, a9, some (.d r0.d), b]) (fun _ _ => rfl) (fun x hx => odd2_ok hx h0 ..)
    [.lst [.int 0, .str ['a'], .str ['b'], .str ['c']], .tup [.int 0, .str ['a'], .str ['b', 'b'], .str ['c']], .tup [.int 0, .str ['a'], .str ['b'], .str ['^']], .tup [.int 0, .str ['a'], .str ['b'], .str ['A']], .tup [.bl true, .str ['a'], .str ['b'], .str ['c']]] c1 (by
      intro x hx
      simp only [List.mem_cons, List.not_mem_nil, or_false] at hx
      rcases hx with rfl | rfl | rfl | rfl | rfl
      · exact DI.a7
      · exact DI.a8
      · exact DI.a9
      · exact DI.a10
      · exact DI.a11)
  have e3 : eCall F_found [eTup [eC (.int 2), eC (.int 0), eC (.int 0), eC (.int 1), eC (.str ['l', 'a', 's', 't'])], eTup [eC (.int 0), eC (.str ['a', '^']), eC (.str ['b']), eC (.str [])], eC (.str ['a', 'b'])] [a0, a1, a2, a3, a4, a5, a6, a7, a8, a9, some (.d r0.d), c2] m = .ex ⟨"InvalidAnchor", none⟩ m := by
    have := found_off r1_ok DI.a12 (.str ['a', 'b']) m
    simp only [r1, Rule.d] at this
    simp [this]
  have e3' := try_ex h0 e3 nmA
  have s3 : dEq (.lst [.int 2, .int 0, .int 3]) (.lst [.int 2, .int 0, .int 3]) = some (.bl true) := eq_ints [2, 0, 3] [2, 0, 3]
  have rd : r0.d = .tup [.int 1, .int 1, .int 2, .int 2, .str k_first] := rfl
  rw [rd] at w1 w2 e3' s1 s2
  simp [w1, w2, e3', ne_anchor]
  simp at s1 s2
  simp [s1, s2, s3]
theorem law_true (T0 : Nat) (ns : List Int) (hn : ns.length ≤ 63) : ∃ m', F_law T0 [.d (.lst (ns.map .int))] [.tab T0 "law.<locals>.<lambda>"] = .ok (.d (.bl true)) m' := by
  simp only [F_law, s_law, mkFn]
  obtain ⟨ρ', m', f1, ⟨b1, b2, b3, b4, b5, b6, b7, b8, b9, hr⟩, z, _⟩ := for_inv (tg := tN 1) (s := cellS) (fun ρ m => (∃ b1 b2 b3 b4 b5 b6 b7 b8 b9, ρ = [some (.d (.lst (ns.map .int))), b1, b2, b3, b4, b5, b6, b7, b8, b9, none, none]) ∧ m[0]? = some (.tab T0 QN) ∧ 0 < m.length)
    (((0 :: ns).take 10).map .int) (fun x hx ρ m ⟨⟨b1, b2, b3, b4, b5, b6, b7, b8, b9, e⟩, h0, hl⟩ => by
      rw [List.mem_map] at hx
      obtain ⟨cell, _, rfl⟩ := hx
      rw [e]
      obtain ⟨c2, c3, c4, c5, c6, c7, c8, c9, m', h, h1, h2⟩ := cell_ok cell m hl (some (.d (.lst (ns.map .int)))) b2 b3 b4 b5 b6 b7 b8 b9 none none
      exact ⟨_, _, _, rfl, h, ⟨_, _, _, _, _, _, _, _, _, rfl⟩, h1.trans h0, h2⟩) [some (.d (.lst (ns.map .int))), none, none, none, none, none, none, none, none, none, none, none] [.tab T0 QN] ⟨⟨_, _, _, _, _, _, _, _, _, rfl⟩, rfl, by simp⟩
  have e1 : cutD (D.int 0 :: ns.map .int) none (some 10) = ((0 :: ns).take 10).map .int := by
    rw [show (some (10 : Int)) = some ((10 : Nat) : Int) from rfl, cut_to, List.map_take]
    rfl
  refine ⟨m'.take 1, ?_⟩
  rw [ev_seq, ev_for]
  have hit : iV (eSl dSl (e2 dAdd (eFz (nLst [eC (.int 0)])) (eV 0)) oN (oS (eC (.int 10)))) [some (.d (.lst (ns.map .int))), none, none, none, none, none, none, none, none, none, none, none] [.tab T0 QN] = .ok (((0 :: ns).take 10).map .int) [.tab T0 QN] := by
    have : 1 + ns.length ≤ 16777216 := by omega
    simp [-List.take_succ_cons, this]
    rw [e1, List.map_take]
    rfl
  show fnR _ (((iV (eSl dSl (e2 dAdd (eFz (nLst [eC (.int 0)])) (eV 0)) oN (oS (eC (.int 10)))) [some (.d (.lst (ns.map .int))), none, none, none, none, none, none, none, none, none, none, none] [.tab T0 QN]).run fun xs m => forL (tN 1) cellS xs [some (.d (.lst (ns.map .int))), none, none, none, none, none, none, none, none, none, none, none] m).andThen (lastS T0)) = _
  rw [hit, Res.run_ok, f1, at_nx, hr, last_ok z]
  rfl
end DI
open PySem PySem.W PyProof.Rows in
set_option maxRecDepth 100000 in
set_option maxHeartbeats 0 in
theorem PySem.Challenge.cw_anchorholds_k13_anchors_scores_and_findi_holds : PySem.Challenge.rw_anchorholds_k13_anchors_scores_and_findi.Holds := by
  w_on; o_law; k_head; (case hw => w_witness2)
  k_fill
  refine DI.walkT (l := PySem.Challenge.rw_anchorholds_k13_anchors_scores_and_findi) (lv := 9) (F := DI.F_law) "law.<locals>.<lambda>" rfl rfl ⟨rfl, by decide, by decide⟩ (fun w h Y => PySem.W.km_in_of Y) (fun w h Y => PySem.W.km_tabs_of Y) ?F DI.law_true
  case F =>
    intro w mg fa h KX G hmg
    refine' DI.all_mk KX G hmg ?a0 ?l0 ?q0 ?k0 ?a1 ?l1 ?q1 ?k1 ?a2 ?l2 ?q2 ?k2 ?a3 ?l3 ?q3 ?k3 ?a4 ?l4 ?q4 ?k4 ?a5 ?l5 ?q5 ?k5 ?a6 ?l6 ?q6 ?k6 ?a7 ?l7 ?q7 ?k7 ?a8 ?l8 ?q8 ?k8 ?a9 ?l9 ?q9 ?k9 ?a10 ?l10 ?q10 ?k10 ?a11 ?l11 ?q11 ?k11 ?a12 ?l12 ?q12 ?k12 ?a13 ?l13 ?q13 ?k13 ?a14 ?l14 ?q14 ?k14 ?a15 ?l15 ?q15 ?k15 ?a16 ?l16 ?q16 ?k16 ?a17 ?l17 ?q17 ?k17 ?a18 ?l18 ?q18 ?k18 ?a19 ?l19 ?q19 ?k19 ?a20 ?l20 ?q20 ?k20 ?a21 ?l21 ?q21 ?k21 ?a22 ?l22 ?q22 ?k22 ?a23 ?l23 ?q23 ?k23 ?a24 ?l24 ?q24 ?k24 ?a25 ?l25 ?q25 ?k25 ?a26 ?l26 ?q26 ?k26 ?a27 ?l27 ?q27 ?k27 ?a28 ?l28 ?q28 ?k28 ?a29 ?l29 ?q29 ?k29 ?a30 ?l30 ?q30 ?k30 ?a31 ?l31 ?q31 ?k31 ?a32 ?l32 ?q32 ?k32 ?a33 ?l33 ?q33 ?k33 ?a34 ?l34 ?q34 ?k34 ?a35 ?l35 ?q35 ?k35 ?a36 ?l36 ?q36 ?k36 ?z_all ?z_bool ?z_enumerate ?z_int ?z_isinstance ?z_len ?z_list ?z_max ?z_range ?z_str ?z_tuple ?z_zip ?c0 ?c1 ?c2 ?d2 ?y_AnchorError ?y_InvalidText ?y_InvalidRow ?y_InvalidLine ?y_InvalidPlace ?y_InvalidNumber ?y_InvalidFacts ?y_InvalidLines ?y_InvalidTexts ?y_InvalidRule ?y_InvalidAnchor ?y_InvalidSeen ?y_InvalidName ?y_InvalidFiles ?y_NoFile ?y_NoRemark ?y_WrongState ?y_NothingToUndo ?y_TooMany ?y_InvalidForm ?y_InvalidWay ?z_ValueError ?o1 ?o2 ?t0 ?t1 ?e0_InvalidAnchor ?e1_InvalidAnchor ?e2_InvalidAnchor ?e3_InvalidAnchor ?e4_InvalidAnchor ?e5_InvalidAnchor ?e6_InvalidAnchor ?e7_InvalidAnchor ?e8_InvalidAnchor ?e9_InvalidAnchor ?i_InvalidAnchor_InvalidText ?i_InvalidAnchor_InvalidRow ?i_InvalidAnchor_InvalidLine ?i_InvalidAnchor_InvalidPlace ?i_InvalidAnchor_InvalidNumber ?i_InvalidAnchor_InvalidFacts ?i_InvalidAnchor_InvalidLines ?i_InvalidAnchor_InvalidTexts ?i_InvalidAnchor_InvalidRule ?i_InvalidAnchor_InvalidAnchor ?i_InvalidAnchor_InvalidSeen ?i_InvalidAnchor_InvalidName ?i_InvalidAnchor_InvalidFiles ?i_InvalidAnchor_NoFile ?i_InvalidAnchor_NoRemark ?i_InvalidAnchor_WrongState ?i_InvalidAnchor_NothingToUndo ?i_InvalidAnchor_TooMany ?i_InvalidAnchor_InvalidForm ?i_InvalidAnchor_InvalidWay ?i_InvalidAnchor_ValueError
    (case a0 => k_is)
    (case l0 => k_is)
    (case q0 => k_is)
    (case k0 => k_is)
    (case a1 => k_is)
    (case l1 => k_is)
    (case q1 => k_is)
    (case k1 => k_is)
    (case a2 => k_is)
    (case l2 => k_is)
    (case q2 => k_is)
    (case k2 => k_is)
    (case a3 => k_is)
    (case l3 => k_is)
    (case q3 => k_is)
    (case k3 => k_is)
    (case a4 => k_is)
    (case l4 => k_is)
    (case q4 => k_is)
    (case k4 => k_is)
    (case a5 => k_is)
    (case l5 => k_is)
    (case q5 => k_is)
    (case k5 => k_is)
    (case a6 => k_is)
    (case l6 => k_is)
    (case q6 => k_is)
    (case k6 => k_is)
    (case a7 => k_is)
    (case l7 => k_is)
    (case q7 => k_is)
    (case k7 => k_is)
    (case a8 => k_is)
    (case l8 => k_is)
    (case q8 => k_is)
    (case k8 => k_is)
    (case a9 => k_is)
    (case l9 => k_is)
    (case q9 => k_is)
    (case k9 => k_is)
    (case a10 => k_is)
    (case l10 => k_is)
    (case q10 => k_is)
    (case k10 => k_is)
    (case a11 => k_is)
    (case l11 => k_is)
    (case q11 => k_is)
    (case k11 => k_is)
    (case a12 => k_is)
    (case l12 => k_is)
    (case q12 => k_is)
    (case k12 => k_is)
    (case a13 => k_is)
    (case l13 => k_is)
    (case q13 => k_is)
    (case k13 => k_is)
    (case a14 => k_is)
    (case l14 => k_is)
    (case q14 => k_is)
    (case k14 => k_is)
    (case a15 => k_is)
    (case l15 => k_is)
    (case q15 => k_is)
    (case k15 => k_is)
    (case a16 => k_is)
    (case l16 => k_is)
    (case q16 => k_is)
    (case k16 => k_is)
    (case a17 => k_is)
    (case l17 => k_is)
    (case q17 => k_is)
    (case k17 => k_is)
    (case a18 => k_is)
    (case l18 => k_is)
    (case q18 => k_is)
    (case k18 => k_is)
    (case a19 => k_is)
    (case l19 => k_is)
    (case q19 => k_is)
    (case k19 => k_is)
    (case a20 => k_is)
    (case l20 => k_is)
    (case q20 => k_is)
    (case k20 => k_is)
    (case a21 => k_is)
    (case l21 => k_is)
    (case q21 => k_is)
    (case k21 => k_is)
    (case a22 => k_is)
    (case l22 => k_is)
    (case q22 => k_is)
    (case k22 => k_is)
    (case a23 => k_is)
    (case l23 => k_is)
    (case q23 => k_is)
    (case k23 => k_is)
    (case a24 => k_is)
    (case l24 => k_is)
    (case q24 => k_is)
    (case k24 => k_is)
    (case a25 => k_is)
    (case l25 => k_is)
    (case q25 => k_is)
    (case k25 => k_is)
    (case a26 => k_is)
    (case l26 => k_is)
    (case q26 => k_is)
    (case k26 => k_is)
    (case a27 => k_is)
    (case l27 => k_is)
    (case q27 => k_is)
    (case k27 => k_is)
    (case a28 => k_is)
    (case l28 => k_is)
    (case q28 => k_is)
    (case k28 => k_is)
    (case a29 => k_is)
    (case l29 => k_is)
    (case q29 => k_is)
    (case k29 => k_is)
    (case a30 => k_is)
    (case l30 => k_is)
    (case q30 => k_is)
    (case k30 => k_is)
    (case a31 => k_is)
    (case l31 => k_is)
    (case q31 => k_is)
    (case k31 => k_is)
    (case a32 => k_is)
    (case l32 => k_is)
    (case q32 => k_is)
    (case k32 => k_is)
    (case a33 => k_is)
    (case l33 => k_is)
    (case q33 => k_is)
    (case k33 => k_is)
    (case a34 => k_is)
    (case l34 => k_is)
    (case q34 => k_is)
    (case k34 => k_is)
    (case a35 => k_is)
    (case l35 => k_is)
    (case q35 => k_is)
    (case k35 => k_is)
    (case a36 => k_is)
    (case l36 => k_is)
    (case q36 => k_is)
    (case k36 => k_is)
    (case z_all => k_is)
    (case z_bool => k_is)
    (case z_enumerate => k_is)
    (case z_int => k_is)
    (case z_isinstance => k_is)
    (case z_len => k_is)
    (case z_list => k_is)
    (case z_max => k_is)
    (case z_range => k_is)
    (case z_str => k_is)
    (case z_tuple => k_is)
    (case z_zip => k_is)
    (case c0 => k_is)
    (case c1 => k_is)
    (case c2 => k_is)
    (case d2 => k_is)
    (case y_AnchorError => k_is)
    (case y_InvalidText => k_is)
    (case y_InvalidRow => k_is)
    (case y_InvalidLine => k_is)
    (case y_InvalidPlace => k_is)
    (case y_InvalidNumber => k_is)
    (case y_InvalidFacts => k_is)
    (case y_InvalidLines => k_is)
    (case y_InvalidTexts => k_is)
    (case y_InvalidRule => k_is)
    (case y_InvalidAnchor => k_is)
    (case y_InvalidSeen => k_is)
    (case y_InvalidName => k_is)
    (case y_InvalidFiles => k_is)
    (case y_NoFile => k_is)
    (case y_NoRemark => k_is)
    (case y_WrongState => k_is)
    (case y_NothingToUndo => k_is)
    (case y_TooMany => k_is)
    (case y_InvalidForm => k_is)
    (case y_InvalidWay => k_is)
    (case z_ValueError => k_is)
    (case o1 => k_is)
    (case o2 => k_is)
    (case t0 => kernel_rfl)
    (case t1 => kernel_rfl)
    (case e0_InvalidAnchor => k_exc)
    (case e1_InvalidAnchor => k_is)
    (case e2_InvalidAnchor => k_is)
    (case e3_InvalidAnchor => k_is)
    (case e4_InvalidAnchor => k_is)
    (case e5_InvalidAnchor => k_is)
    (case e6_InvalidAnchor => k_is)
    (case e7_InvalidAnchor => k_is)
    (case e8_InvalidAnchor => k_is)
    (case e9_InvalidAnchor => kernel_rfl)
    (case i_InvalidAnchor_InvalidText => kernel_rfl)
    (case i_InvalidAnchor_InvalidRow => kernel_rfl)
    (case i_InvalidAnchor_InvalidLine => kernel_rfl)
    (case i_InvalidAnchor_InvalidPlace => kernel_rfl)
    (case i_InvalidAnchor_InvalidNumber => kernel_rfl)
    (case i_InvalidAnchor_InvalidFacts => kernel_rfl)
    (case i_InvalidAnchor_InvalidLines => kernel_rfl)
    (case i_InvalidAnchor_InvalidTexts => kernel_rfl)
    (case i_InvalidAnchor_InvalidRule => kernel_rfl)
    (case i_InvalidAnchor_InvalidAnchor => kernel_rfl)
    (case i_InvalidAnchor_InvalidSeen => kernel_rfl)
    (case i_InvalidAnchor_InvalidName => kernel_rfl)
    (case i_InvalidAnchor_InvalidFiles => kernel_rfl)
    (case i_InvalidAnchor_NoFile => kernel_rfl)
    (case i_InvalidAnchor_NoRemark => kernel_rfl)
    (case i_InvalidAnchor_WrongState => kernel_rfl)
    (case i_InvalidAnchor_NothingToUndo => kernel_rfl)
    (case i_InvalidAnchor_TooMany => kernel_rfl)
    (case i_InvalidAnchor_InvalidForm => kernel_rfl)
    (case i_InvalidAnchor_InvalidWay => kernel_rfl)
    (case i_InvalidAnchor_ValueError => kernel_rfl)
